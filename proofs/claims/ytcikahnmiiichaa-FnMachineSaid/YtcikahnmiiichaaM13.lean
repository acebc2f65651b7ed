/- Go functions as Lean functions, and the proof that the code comes to them: written by a program of this session out of the translation. -/
import Derived.Test.YtcikahnmiiichaaM0
import Derived.Test.YtcikahnmiiichaaM2
import Derived.Test.YtcikahnmiiichaaM3
import Derived.Test.YtcikahnmiiichaaM4
import Derived.Test.YtcikahnmiiichaaM7
import Derived.Test.YtcikahnmiiichaaM8
import Derived.Test.YtcikahnmiiichaaM11
import Derived.Test.YtcikahnmiiichaaM12
namespace Go.Proofs.Ytcikahnmiiichaa.M
open List renaming setIfInBounds_toArray → vO, set_cons_zero → vP, set_cons_succ → vQ, map_toArray → vR
open Go.World renaming block_lt_of_cell? → vU
open Go.RowKit Go.Proofs.YtcikahnmiiichaaW.PrintWords Go.Proofs.YtcikahnmiiichaaW.PrintLast Go.Proofs.YtcikahnmiiichaaW.PrintMore
attribute [local go_sem] max2_int min2_int max_two min_two max_three min_three max_four min_four   -- for this text's walks alone
set_option linter.unusedVariables false
set_option linter.unusedSimpArgs false

attribute [local go_sem high] eqA49
/-! ### spec_l3Any: function 60 -/
def spec_l3Any.f (s0_0 : List Int) (s0_1 : Int) (s0_2 : Int) : Option (Int × Int × Int × Int × Int × Int × Int × Int) := (spec_l3Op.f s0_0 s0_1 s0_2).bind fun bt267 => ((spec_l1Below.f s0_0 bt267.2.2.2.2.2.2.1 bt267.2.2.2.2.2.2.2 14).bind fun bt276 => (if bt276.1 = 0 then ((spec_l1PickInt.f s0_0 bt276.2.1 bt276.2.2 (([(-1), 2, 3] : List Int))).bind fun bt282 => (some (bt282.1, bt267.2.1, bt267.2.2.1, bt267.2.2.2.1, bt267.2.2.2.2.1, bt267.2.2.2.2.2.1, bt282.2.1, bt282.2.2))) else (if bt276.1 = 1 then ((spec_l1PickInt.f s0_0 bt276.2.1 bt276.2.2 (([0, 99, 100] : List Int))).bind fun bt288 => (some (bt267.1, bt288.1, bt267.2.2.1, bt267.2.2.2.1, bt267.2.2.2.2.1, bt267.2.2.2.2.2.1, bt288.2.1, bt288.2.2))) else (if bt276.1 = 2 then ((spec_l1Below.f s0_0 bt276.2.1 bt276.2.2 4).bind fun bt291 => (some (bt267.1, bt267.2.1, bt291.1, bt267.2.2.2.1, bt267.2.2.2.2.1, bt267.2.2.2.2.2.1, bt291.2.1, bt291.2.2))) else (if bt276.1 = 3 then ((spec_l1PickInt.f s0_0 bt276.2.1 bt276.2.2 (([(-1), 3] : List Int))).bind fun bt297 => (some (bt267.1, bt267.2.1, bt267.2.2.1, bt297.1, bt267.2.2.2.2.1, bt267.2.2.2.2.2.1, bt297.2.1, bt297.2.2))) else (if bt276.1 = 4 then ((spec_l1PickInt.f s0_0 bt276.2.1 bt276.2.2 (([(-1), 9, 10] : List Int))).bind fun bt303 => (some (bt267.1, bt267.2.1, bt267.2.2.1, bt267.2.2.2.1, bt267.2.2.2.2.1, bt303.1, bt303.2.1, bt303.2.2))) else (if bt276.1 = 5 then ((spec_l1PickInt.f s0_0 bt276.2.1 bt276.2.2 (([(-1), 0, 9, 10] : List Int))).bind fun bt309 => (some (bt267.1, bt267.2.1, bt267.2.2.1, bt267.2.2.2.1, bt309.1, bt267.2.2.2.2.2.1, bt309.2.1, bt309.2.2))) else (some (bt267.1, bt267.2.1, bt267.2.2.1, bt267.2.2.2.1, bt267.2.2.2.2.1, bt267.2.2.2.2.2.1, bt276.2.1, bt276.2.2)))))))))
set_option maxHeartbeats 8000000 in
set_option maxRecDepth 100000 in
theorem spec_l3Any.calls (g : Nat) (s0_0 : List Int) (s0_1 : Int) (s0_2 : Int) (r1 : Int) (r2 : Int) (r3 : Int) (r4 : Int) (r5 : Int) (r6 : Int) (r7 : Int) (r8 : Int) (w0 w : World) (hI : IsS112 w0 w g s0_0 s0_1 s0_2) (hB : Below w0.heap.size w0 w) (h : spec_l3Any.f s0_0 s0_1 s0_2 = some (r1, r2, r3, r4, r5, r6, r7, r8)) :
    Calls Try.prog 60 #[.pointer (some ⟨g, 0, none⟩)] w fun e w' => e = .returned (.agg #[.int .i64 r1, .int .i64 r2, .int .i64 r3, .int .i64 r4, .int .i64 r5, .int .i64 r6]) ∧ IsS112 w0 w' g s0_0 r7 r8 ∧ Below w0.heap.size w0 w' ∧ uX w w' g none := by
  have hu37 := Try.underlying37
  have HI0 := Aside0.mk hI
  have HK := Aside0.mk (uX.refl w g none)
  have HL := Aside0.mk hB.size
  clear hI
  have HW0 := Aside0.mk hB.size
  have HB := Aside0.mk hB
  clear hB
  have H : ((spec_l3Op.f s0_0 s0_1 s0_2).bind fun bt267 => ((spec_l1Below.f s0_0 bt267.2.2.2.2.2.2.1 bt267.2.2.2.2.2.2.2 14).bind fun bt276 => (if bt276.1 = 0 then ((spec_l1PickInt.f s0_0 bt276.2.1 bt276.2.2 (([(-1), 2, 3] : List Int))).bind fun bt282 => (some (bt282.1, bt267.2.1, bt267.2.2.1, bt267.2.2.2.1, bt267.2.2.2.2.1, bt267.2.2.2.2.2.1, bt282.2.1, bt282.2.2))) else (if bt276.1 = 1 then ((spec_l1PickInt.f s0_0 bt276.2.1 bt276.2.2 (([0, 99, 100] : List Int))).bind fun bt288 => (some (bt267.1, bt288.1, bt267.2.2.1, bt267.2.2.2.1, bt267.2.2.2.2.1, bt267.2.2.2.2.2.1, bt288.2.1, bt288.2.2))) else (if bt276.1 = 2 then ((spec_l1Below.f s0_0 bt276.2.1 bt276.2.2 4).bind fun bt291 => (some (bt267.1, bt267.2.1, bt291.1, bt267.2.2.2.1, bt267.2.2.2.2.1, bt267.2.2.2.2.2.1, bt291.2.1, bt291.2.2))) else (if bt276.1 = 3 then ((spec_l1PickInt.f s0_0 bt276.2.1 bt276.2.2 (([(-1), 3] : List Int))).bind fun bt297 => (some (bt267.1, bt267.2.1, bt267.2.2.1, bt297.1, bt267.2.2.2.2.1, bt267.2.2.2.2.2.1, bt297.2.1, bt297.2.2))) else (if bt276.1 = 4 then ((spec_l1PickInt.f s0_0 bt276.2.1 bt276.2.2 (([(-1), 9, 10] : List Int))).bind fun bt303 => (some (bt267.1, bt267.2.1, bt267.2.2.1, bt267.2.2.2.1, bt267.2.2.2.2.1, bt303.1, bt303.2.1, bt303.2.2))) else (if bt276.1 = 5 then ((spec_l1PickInt.f s0_0 bt276.2.1 bt276.2.2 (([(-1), 0, 9, 10] : List Int))).bind fun bt309 => (some (bt267.1, bt267.2.1, bt267.2.2.1, bt267.2.2.2.1, bt309.1, bt267.2.2.2.2.2.1, bt309.2.1, bt309.2.2))) else (some (bt267.1, bt267.2.1, bt267.2.2.1, bt267.2.2.2.1, bt267.2.2.2.2.1, bt267.2.2.2.2.2.1, bt276.2.1, bt276.2.2)))))))))) = some (r1, r2, r3, r4, r5, r6, r7, r8) := h
  clear h
  replace H := Option.bind_eq_some_iff.mp H
  obtain ⟨⟨t267, t268, t269, t270, t271, t272, t273, t274⟩, A20, H⟩ := H
  try dsimp only at H
  have A2 := Aside0.mk A20
  clear A20
  replace H := Option.bind_eq_some_iff.mp H
  obtain ⟨⟨t276, t277, t278⟩, A30, H⟩ := H
  try dsimp only at H
  have A3 := Aside0.mk A30
  clear A30
  go_enter Try.func60, Try.ntmps60
  go_wp2_with (first | ((with_reducible refine uI (N := 2) rfl ?_); refine bxe 2 #[.int .i64 0, .int .i64 0, .int .i64 0, .int .i64 0, .int .i64 0, .int .i64 0] 37 ?_; intro gb266 hg w6 hbox hb; have BK266 := Aside0.mk (hbox); have GW266 := tKGe HK hg; have GE266 := tKW HW0 HK hg; have NB0_266 := Aside0.mk ((by rw [hg]; exact Nat.ne_of_lt (IsS112.lt (show IsS112 w0 _ g s0_0 s0_1 s0_2 from by repeat (first | (with_reducible first | exact HI0.out | apply IsS112.alloc | apply IsS112.drewN | apply IsS112.drew | apply IsS112.set_1 | apply IsS112.set_2) | exact HI0.out))) : g ≠ gb266)); have NB266_0 := Aside0.mk ((by rw [hg]; exact Nat.ne_of_gt (IsS112.lt (show IsS112 w0 _ g s0_0 s0_1 s0_2 from by repeat (first | (with_reducible first | exact HI0.out | apply IsS112.alloc | apply IsS112.drewN | apply IsS112.drew | apply IsS112.set_1 | apply IsS112.set_2) | exact HI0.out))) : gb266 ≠ g)); replace HI0 := Aside0.mk (IsS112.below q6 hb); replace HK := uU HK (uX.of_below hb g none); replace HB := tBel1 HB hb; clear hb hbox hg; refine ?roundEnd))
  case roundEnd =>
  by_cases c4 : t276 = 0
  · rw [if_pos c4] at H
    have c4b0 : (t276 == 0) = true := beq_iff_eq.mpr c4
    have c4b1 : (t276 != 0) = false := bne_eq_false_iff_eq.mpr c4
    clear c4
    obtain ⟨y279, hy279⟩ : ∃ y_ : List Int, y_ = (([(-1), 2, 3] : List Int)) := ⟨_, rfl⟩
    replace H : ((spec_l1PickInt.f s0_0 t277 t278 y279).bind fun bt282 => (some (bt282.1, t268, t269, t270, t271, t272, bt282.2.1, bt282.2.2))) = some (r1, r2, r3, r4, r5, r6, r7, r8) := by first | (rw [hy279]; with_reducible exact H) | (have H2_ := (Option.bind_some _ _).symm.trans H; rw [hy279]; with_reducible exact H2_) | (have H2_ := (Option.bind_some _ _).symm.trans H; with_reducible exact H2_) | with_reducible exact H | (rw [hy279]; exact H) | exact H | rfl
    have Ny279 := Aside0.mk hy279
    clear hy279
    replace H := Option.bind_eq_some_iff.mp H
    obtain ⟨⟨t282, t283, t284⟩, A50, H⟩ := H
    try dsimp only at H
    have A5 := Aside0.mk A50
    clear A50
    simp only [Option.some.injEq, Prod.mk.injEq] at H
    obtain ⟨rfl, rfl, rfl, rfl, rfl, rfl, rfl, rfl⟩ := H
    go_wp2_with (first | ((with_reducible refine uH (f := 85) rfl ?_); refine vC (some 5) Try.func85 #[.pointer (some ⟨g, 0, none⟩)] ?_; (with_reducible refine (spec_l3Op.calls g s0_0 s0_1 s0_2 t267 t268 t269 t270 t271 t272 t273 t274 w0 _ ?side1 ?side2 A2.out).mono ?_); (case side1 => exact q8); (case side2 => exact q0); rintro e w7 ⟨rfl, hi, hb, hk⟩; refine ⟨_, rfl, ?_⟩; replace BK266 := vH BK266 hk NB266_0; replace HK := uU HK hk; replace HB := Aside0.mk (hb); replace HI0 := Aside0.mk (hi); (try clear hb); (try clear hb2); (try clear hk); (try clear hi)) | ((with_reducible refine uI (N := 3) rfl ?_); refine bxe 3 #[.int .i64 0, .int .i64 0, .int .i64 0, .int .i64 0, .int .i64 0, .int .i64 0] 37 ?_; intro gb275 hg w8 hbox hb; have BK275 := Aside0.mk (hbox); have GW275 := tKGe HK hg; have GE275 := tKW HW0 HK hg; have NB266_275 := tNl BK266 hg; have NB275_266 := tNg BK266 hg; have NB0_275 := Aside0.mk ((by rw [hg]; exact Nat.ne_of_lt (IsS112.lt (show IsS112 w0 _ g s0_0 t273 t274 from by repeat (first | (with_reducible first | exact HI0.out | apply IsS112.alloc | apply IsS112.drewN | apply IsS112.drew | apply IsS112.set_1 | apply IsS112.set_2 | refine IsS112.far ?_ NB0_266.out _) | exact HI0.out))) : g ≠ gb275)); have NB275_0 := Aside0.mk ((by rw [hg]; exact Nat.ne_of_gt (IsS112.lt (show IsS112 w0 _ g s0_0 t273 t274 from by repeat (first | (with_reducible first | exact HI0.out | apply IsS112.alloc | apply IsS112.drewN | apply IsS112.drew | apply IsS112.set_1 | apply IsS112.set_2 | refine IsS112.far ?_ NB0_266.out _) | exact HI0.out))) : gb275 ≠ g)); replace HI0 := Aside0.mk (IsS112.below q8 hb); replace BK266 := uL BK266 hb; replace HK := uU HK (uX.of_below hb g none); replace HB := tBel1 HB hb; clear hb hbox hg; have hnb9 := NB275_266.out; have hnc9 := NB266_275.out; have hnb10 := NB275_0.out; have hnc10 := NB0_275.out; obtain ⟨hcz11_0, hcz11_1, hcz11_2, hcz11_3, hcz11_4, hcz11_5, hfz11_0, hfz11_1, hfz11_2, hfz11_3, hfz11_4, hfz11_5⟩ := cz6 BK275) | ((with_reducible refine uH (f := 74) rfl ?_); refine vC (some 7) Try.func74 #[.pointer (some ⟨g, 0, none⟩), .int .i64 14] ?_; (with_reducible refine (spec_l1Below.calls g s0_0 t273 t274 14 t276 t277 t278 w0 _ ?side1 ?side2 A3.out).mono ?_); (case side1 => exact q4); (case side2 => exact q0); rintro e w12 ⟨rfl, hi, hb, hk⟩; refine ⟨_, rfl, ?_⟩; replace BK266 := tKBlkF BK266 hk NB266_0; replace BK275 := tKBlkP BK275 #[.int .i64 t267, .int .i64 t268, .int .i64 t269, .int .i64 t270, .int .i64 t271, .int .i64 t272] hk NB275_0; replace HK := uU HK hk; replace HB := Aside0.mk (hb); replace HI0 := Aside0.mk (hi); (try clear hb); (try clear hb2); (try clear hk); (try clear hi)) | ((with_reducible refine uI (N := 11) rfl ?_); refine Kd.R_lit (Kd.int .i64) _ 3 ?hg (N := 11) ?hd (xs := ([(-1), 2, 3] : List Int)) (inner := [.int .i64 (-1), .int .i64 2, .int .i64 3]) (ok := fun _ => True) (okp := fun _ => True) ?hr ?hp (fun _ hk => hk) trivial (Below.refl _ _) (Nat.le_refl _) (by simp) ?_; (case hd => rfl); (case hg => rfl); (case hr => first | (go_simp; done) | (go_simp; rfl)); (case hp => exact (Reps.one (show Kd.M (Kd.int .i64) _ _ _ (-1) [.int .i64 (-1)] from rfl) (Reps.one (show Kd.M (Kd.int .i64) _ _ _ 2 [.int .i64 2] from rfl) (Reps.one (show Kd.M (Kd.int .i64) _ _ _ 3 [.int .i64 3] from rfl) (Reps.none _ _))))); intro v280 w13 ho14 hb hg_ hnew_; clear hg_ hnew_; (first | rw [← Ny279.out] at ho14 | (simp only [Int.reduceToNat] at ho14; rw [← Ny279.out] at ho14)); have HO281 := Aside0.mk (Kd.vG ho14 (vN (w := w) (g := g) (row := none) q2)); replace HI0 := Aside0.mk (IsS112.below q4 hb); replace BK266 := uL BK266 hb; replace BK275 := uL BK275 hb; replace HK := uU HK (uX.of_below hb g none); replace HB := tBel1 HB hb; clear hb ho14; obtain ⟨Ao15, co15, eo15⟩ := Kd.uW HO281.out; subst eo15) | ((with_reducible refine uH (f := 75) rfl ?_); refine vC (some 12) Try.func75 #[.pointer (some ⟨g, 0, none⟩), .slice Ao15 y279.length co15] ?_; (with_reducible refine (spec_l1PickInt.calls g s0_0 t277 t278 _ _ y279 t282 t283 t284 w0 _ ?side1 ?side2 ?side3 ?side4 ?side5 A5.out).mono ?_); (case side1 => exact q4); (case side2 => exact q0); (case side3 => repeat (first | exact (Kd.uP HO281.out).2.2 | (with_reducible refine Kd.vJ ?_ _) | (with_reducible refine Kd.vK ?_ _) | (with_reducible refine Kd.C_drew ?_))); (case side4 => exact (Kd.uP HO281.out).2.1); (case side5 => exact far_slice (IsS112.own_ne HI0.out HO281.out (by decide))); rintro e w16 ⟨rfl, hi, hb, hk⟩; refine ⟨_, rfl, ?_⟩; replace BK266 := vH BK266 hk NB266_0; replace BK275 := vH BK275 hk NB275_0; replace HO281 := Aside0.mk (Kd.uJ (Kd.vI (IsS112.apart (show IsS112 w0 _ g s0_0 t277 t278 from by repeat (first | (with_reducible first | exact HI0.out | apply IsS112.alloc | apply IsS112.drewN | apply IsS112.drew | apply IsS112.set_1 | apply IsS112.set_2 | refine IsS112.far ?_ NB0_266.out _ | refine IsS112.far ?_ NB0_275.out _) | exact HI0.out)) (rSR HO281.out) (by decide)) hk (fun _ h => h.2)) (fun _ h => h.1)); replace HK := uU HK hk; replace HB := Aside0.mk (hb); replace HI0 := Aside0.mk (hi); (try clear hb); (try clear hb2); (try clear hk); (try clear hi); obtain ⟨hcz17_0, hcz17_1, hcz17_2, hcz17_3, hcz17_4, hcz17_5, hfz17_0, hfz17_1, hfz17_2, hfz17_3, hfz17_4, hfz17_5⟩ := cz6 BK275; have hnb18 := NB266_0.out; have hnc18 := NB0_266.out; obtain ⟨hcz19_0, hcz19_1, hcz19_2, hcz19_3, hcz19_4, hcz19_5, hfz19_0, hfz19_1, hfz19_2, hfz19_3, hfz19_4, hfz19_5⟩ := cz6 BK266))
    refine bodyPost_ret (results_cell_row rfl _ _ gb266 37 #[.int .i64 t282, .int .i64 t268, .int .i64 t269, .int .i64 t270, .int .i64 t271, .int .i64 t272] (0, 0) _ rfl (by (with_reducible repeat (first | refine uF ?_ _ | refine uB ?_ | refine uE ?_ _)); refine uK (cs := #[.int .i64 t282, .int .i64 t268, .int .i64 t269, .int .i64 t270, .int .i64 t271, .int .i64 0]) ?_ 5 _ rfl; (with_reducible repeat (first | refine uF ?_ _ | refine uB ?_ | refine uE ?_ _)); refine uK (cs := #[.int .i64 t282, .int .i64 t268, .int .i64 t269, .int .i64 t270, .int .i64 0, .int .i64 0]) ?_ 4 _ rfl; (with_reducible repeat (first | refine uF ?_ _ | refine uB ?_ | refine uE ?_ _)); refine uK (cs := #[.int .i64 t282, .int .i64 t268, .int .i64 t269, .int .i64 0, .int .i64 0, .int .i64 0]) ?_ 3 _ rfl; (with_reducible repeat (first | refine uF ?_ _ | refine uB ?_ | refine uE ?_ _)); refine uK (cs := #[.int .i64 t282, .int .i64 t268, .int .i64 0, .int .i64 0, .int .i64 0, .int .i64 0]) ?_ 2 _ rfl; (with_reducible repeat (first | refine uF ?_ _ | refine uB ?_ | refine uE ?_ _)); refine uK (cs := #[.int .i64 t282, .int .i64 0, .int .i64 0, .int .i64 0, .int .i64 0, .int .i64 0]) ?_ 1 _ rfl; (with_reducible repeat (first | refine uF ?_ _ | refine uB ?_ | refine uE ?_ _)); refine uK (cs := #[.int .i64 0, .int .i64 0, .int .i64 0, .int .i64 0, .int .i64 0, .int .i64 0]) ?_ 0 _ rfl; (with_reducible repeat (first | refine uF ?_ _ | refine uB ?_ | refine uE ?_ _)); refine vF ?_ NB266_275.out _; (with_reducible repeat (first | refine uF ?_ _ | refine uB ?_ | refine uE ?_ _)); exact BK266.out) Try.underlying37 rfl (by kernel_rfl)) rfl ?_
    exact ⟨q5, q4, q0, q2⟩
  rw [if_neg c4] at H
  have c4b0 : (t276 == 0) = false := beq_eq_false_iff_ne.mpr c4
  have c4b1 : (t276 != 0) = true := bne_iff_ne.mpr c4
  by_cases c20 : t276 = 1
  · rw [if_pos c20] at H
    have c20b0 : (t276 == 1) = true := beq_iff_eq.mpr c20
    have c20b1 : (t276 != 1) = false := bne_eq_false_iff_eq.mpr c20
    clear c20
    obtain ⟨y285, hy285⟩ : ∃ y_ : List Int, y_ = (([0, 99, 100] : List Int)) := ⟨_, rfl⟩
    replace H : ((spec_l1PickInt.f s0_0 t277 t278 y285).bind fun bt288 => (some (t267, bt288.1, t269, t270, t271, t272, bt288.2.1, bt288.2.2))) = some (r1, r2, r3, r4, r5, r6, r7, r8) := by first | (rw [hy285]; with_reducible exact H) | (have H2_ := (Option.bind_some _ _).symm.trans H; rw [hy285]; with_reducible exact H2_) | (have H2_ := (Option.bind_some _ _).symm.trans H; with_reducible exact H2_) | with_reducible exact H | (rw [hy285]; exact H) | exact H | rfl
    have Ny285 := Aside0.mk hy285
    clear hy285
    replace H := Option.bind_eq_some_iff.mp H
    obtain ⟨⟨t288, t289, t290⟩, A210, H⟩ := H
    try dsimp only at H
    have A21 := Aside0.mk A210
    clear A210
    simp only [Option.some.injEq, Prod.mk.injEq] at H
    obtain ⟨rfl, rfl, rfl, rfl, rfl, rfl, rfl, rfl⟩ := H
    go_wp2_with (first | ((with_reducible refine uH (f := 85) rfl ?_); refine vC (some 5) Try.func85 #[.pointer (some ⟨g, 0, none⟩)] ?_; (with_reducible refine (spec_l3Op.calls g s0_0 s0_1 s0_2 t267 t268 t269 t270 t271 t272 t273 t274 w0 _ ?side1 ?side2 A2.out).mono ?_); (case side1 => exact q8); (case side2 => exact q0); rintro e w23 ⟨rfl, hi, hb, hk⟩; refine ⟨_, rfl, ?_⟩; replace BK266 := vH BK266 hk NB266_0; replace HK := uU HK hk; replace HB := Aside0.mk (hb); replace HI0 := Aside0.mk (hi); (try clear hb); (try clear hb2); (try clear hk); (try clear hi)) | ((with_reducible refine uI (N := 3) rfl ?_); refine bxe 3 #[.int .i64 0, .int .i64 0, .int .i64 0, .int .i64 0, .int .i64 0, .int .i64 0] 37 ?_; intro gb275 hg w24 hbox hb; have BK275 := Aside0.mk (hbox); have GW275 := tKGe HK hg; have GE275 := tKW HW0 HK hg; have NB266_275 := tNl BK266 hg; have NB275_266 := tNg BK266 hg; have NB0_275 := Aside0.mk ((by rw [hg]; exact Nat.ne_of_lt (IsS112.lt (show IsS112 w0 _ g s0_0 t273 t274 from by repeat (first | (with_reducible first | exact HI0.out | apply IsS112.alloc | apply IsS112.drewN | apply IsS112.drew | apply IsS112.set_1 | apply IsS112.set_2 | refine IsS112.far ?_ NB0_266.out _) | exact HI0.out))) : g ≠ gb275)); have NB275_0 := Aside0.mk ((by rw [hg]; exact Nat.ne_of_gt (IsS112.lt (show IsS112 w0 _ g s0_0 t273 t274 from by repeat (first | (with_reducible first | exact HI0.out | apply IsS112.alloc | apply IsS112.drewN | apply IsS112.drew | apply IsS112.set_1 | apply IsS112.set_2 | refine IsS112.far ?_ NB0_266.out _) | exact HI0.out))) : gb275 ≠ g)); replace HI0 := Aside0.mk (IsS112.below q8 hb); replace BK266 := uL BK266 hb; replace HK := uU HK (uX.of_below hb g none); replace HB := tBel1 HB hb; clear hb hbox hg; have hnb25 := NB275_266.out; have hnc25 := NB266_275.out; have hnb26 := NB275_0.out; have hnc26 := NB0_275.out; obtain ⟨hcz27_0, hcz27_1, hcz27_2, hcz27_3, hcz27_4, hcz27_5, hfz27_0, hfz27_1, hfz27_2, hfz27_3, hfz27_4, hfz27_5⟩ := cz6 BK275) | ((with_reducible refine uH (f := 74) rfl ?_); refine vC (some 7) Try.func74 #[.pointer (some ⟨g, 0, none⟩), .int .i64 14] ?_; (with_reducible refine (spec_l1Below.calls g s0_0 t273 t274 14 t276 t277 t278 w0 _ ?side1 ?side2 A3.out).mono ?_); (case side1 => exact q4); (case side2 => exact q0); rintro e w28 ⟨rfl, hi, hb, hk⟩; refine ⟨_, rfl, ?_⟩; replace BK266 := tKBlkF BK266 hk NB266_0; replace BK275 := tKBlkP BK275 #[.int .i64 t267, .int .i64 t268, .int .i64 t269, .int .i64 t270, .int .i64 t271, .int .i64 t272] hk NB275_0; replace HK := uU HK hk; replace HB := Aside0.mk (hb); replace HI0 := Aside0.mk (hi); (try clear hb); (try clear hb2); (try clear hk); (try clear hi)) | ((with_reducible refine uI (N := 17) rfl ?_); refine Kd.R_lit (Kd.int .i64) _ 3 ?hg (N := 17) ?hd (xs := ([0, 99, 100] : List Int)) (inner := [.int .i64 0, .int .i64 99, .int .i64 100]) (ok := fun _ => True) (okp := fun _ => True) ?hr ?hp (fun _ hk => hk) trivial (Below.refl _ _) (Nat.le_refl _) (by simp) ?_; (case hd => rfl); (case hg => rfl); (case hr => first | (go_simp; done) | (go_simp; rfl)); (case hp => exact (Reps.one (show Kd.M (Kd.int .i64) _ _ _ 0 [.int .i64 0] from rfl) (Reps.one (show Kd.M (Kd.int .i64) _ _ _ 99 [.int .i64 99] from rfl) (Reps.one (show Kd.M (Kd.int .i64) _ _ _ 100 [.int .i64 100] from rfl) (Reps.none _ _))))); intro v286 w29 ho30 hb hg_ hnew_; clear hg_ hnew_; (first | rw [← Ny285.out] at ho30 | (simp only [Int.reduceToNat] at ho30; rw [← Ny285.out] at ho30)); have HO287 := Aside0.mk (Kd.vG ho30 (vN (w := w) (g := g) (row := none) q2)); replace HI0 := Aside0.mk (IsS112.below q4 hb); replace BK266 := uL BK266 hb; replace BK275 := uL BK275 hb; replace HK := uU HK (uX.of_below hb g none); replace HB := tBel1 HB hb; clear hb ho30; obtain ⟨Ao31, co31, eo31⟩ := Kd.uW HO287.out; subst eo31) | ((with_reducible refine uH (f := 75) rfl ?_); refine vC (some 18) Try.func75 #[.pointer (some ⟨g, 0, none⟩), .slice Ao31 y285.length co31] ?_; (with_reducible refine (spec_l1PickInt.calls g s0_0 t277 t278 _ _ y285 t288 t289 t290 w0 _ ?side1 ?side2 ?side3 ?side4 ?side5 A21.out).mono ?_); (case side1 => exact q4); (case side2 => exact q0); (case side3 => repeat (first | exact (Kd.uP HO287.out).2.2 | (with_reducible refine Kd.vJ ?_ _) | (with_reducible refine Kd.vK ?_ _) | (with_reducible refine Kd.C_drew ?_))); (case side4 => exact (Kd.uP HO287.out).2.1); (case side5 => exact far_slice (IsS112.own_ne HI0.out HO287.out (by decide))); rintro e w32 ⟨rfl, hi, hb, hk⟩; refine ⟨_, rfl, ?_⟩; replace BK266 := vH BK266 hk NB266_0; replace BK275 := vH BK275 hk NB275_0; replace HO287 := Aside0.mk (Kd.uJ (Kd.vI (IsS112.apart (show IsS112 w0 _ g s0_0 t277 t278 from by repeat (first | (with_reducible first | exact HI0.out | apply IsS112.alloc | apply IsS112.drewN | apply IsS112.drew | apply IsS112.set_1 | apply IsS112.set_2 | refine IsS112.far ?_ NB0_266.out _ | refine IsS112.far ?_ NB0_275.out _) | exact HI0.out)) (rSR HO287.out) (by decide)) hk (fun _ h => h.2)) (fun _ h => h.1)); replace HK := uU HK hk; replace HB := Aside0.mk (hb); replace HI0 := Aside0.mk (hi); (try clear hb); (try clear hb2); (try clear hk); (try clear hi); obtain ⟨hcz33_0, hcz33_1, hcz33_2, hcz33_3, hcz33_4, hcz33_5, hfz33_0, hfz33_1, hfz33_2, hfz33_3, hfz33_4, hfz33_5⟩ := cz6 BK275; have hnb34 := NB266_0.out; have hnc34 := NB0_266.out; obtain ⟨hcz35_0, hcz35_1, hcz35_2, hcz35_3, hcz35_4, hcz35_5, hfz35_0, hfz35_1, hfz35_2, hfz35_3, hfz35_4, hfz35_5⟩ := cz6 BK266))
    refine bodyPost_ret (results_cell_row rfl _ _ gb266 37 #[.int .i64 t267, .int .i64 t288, .int .i64 t269, .int .i64 t270, .int .i64 t271, .int .i64 t272] (0, 0) _ rfl (by (with_reducible repeat (first | refine uF ?_ _ | refine uB ?_ | refine uE ?_ _)); refine uK (cs := #[.int .i64 t267, .int .i64 t288, .int .i64 t269, .int .i64 t270, .int .i64 t271, .int .i64 0]) ?_ 5 _ rfl; (with_reducible repeat (first | refine uF ?_ _ | refine uB ?_ | refine uE ?_ _)); refine uK (cs := #[.int .i64 t267, .int .i64 t288, .int .i64 t269, .int .i64 t270, .int .i64 0, .int .i64 0]) ?_ 4 _ rfl; (with_reducible repeat (first | refine uF ?_ _ | refine uB ?_ | refine uE ?_ _)); refine uK (cs := #[.int .i64 t267, .int .i64 t288, .int .i64 t269, .int .i64 0, .int .i64 0, .int .i64 0]) ?_ 3 _ rfl; (with_reducible repeat (first | refine uF ?_ _ | refine uB ?_ | refine uE ?_ _)); refine uK (cs := #[.int .i64 t267, .int .i64 t288, .int .i64 0, .int .i64 0, .int .i64 0, .int .i64 0]) ?_ 2 _ rfl; (with_reducible repeat (first | refine uF ?_ _ | refine uB ?_ | refine uE ?_ _)); refine uK (cs := #[.int .i64 t267, .int .i64 0, .int .i64 0, .int .i64 0, .int .i64 0, .int .i64 0]) ?_ 1 _ rfl; (with_reducible repeat (first | refine uF ?_ _ | refine uB ?_ | refine uE ?_ _)); refine uK (cs := #[.int .i64 0, .int .i64 0, .int .i64 0, .int .i64 0, .int .i64 0, .int .i64 0]) ?_ 0 _ rfl; (with_reducible repeat (first | refine uF ?_ _ | refine uB ?_ | refine uE ?_ _)); refine vF ?_ NB266_275.out _; (with_reducible repeat (first | refine uF ?_ _ | refine uB ?_ | refine uE ?_ _)); exact BK266.out) Try.underlying37 rfl (by kernel_rfl)) rfl ?_
    exact ⟨q5, q4, q0, q2⟩
  rw [if_neg c20] at H
  have c20b0 : (t276 == 1) = false := beq_eq_false_iff_ne.mpr c20
  have c20b1 : (t276 != 1) = true := bne_iff_ne.mpr c20
  by_cases c36 : t276 = 2
  · rw [if_pos c36] at H
    have c36b0 : (t276 == 2) = true := beq_iff_eq.mpr c36
    have c36b1 : (t276 != 2) = false := bne_eq_false_iff_eq.mpr c36
    clear c36
    replace H := Option.bind_eq_some_iff.mp H
    obtain ⟨⟨t291, t292, t293⟩, A370, H⟩ := H
    try dsimp only at H
    have A37 := Aside0.mk A370
    clear A370
    simp only [Option.some.injEq, Prod.mk.injEq] at H
    obtain ⟨rfl, rfl, rfl, rfl, rfl, rfl, rfl, rfl⟩ := H
    go_wp2_with (first | ((with_reducible refine uH (f := 85) rfl ?_); refine vC (some 5) Try.func85 #[.pointer (some ⟨g, 0, none⟩)] ?_; (with_reducible refine (spec_l3Op.calls g s0_0 s0_1 s0_2 t267 t268 t269 t270 t271 t272 t273 t274 w0 _ ?side1 ?side2 A2.out).mono ?_); (case side1 => exact q8); (case side2 => exact q0); rintro e w39 ⟨rfl, hi, hb, hk⟩; refine ⟨_, rfl, ?_⟩; replace BK266 := vH BK266 hk NB266_0; replace HK := uU HK hk; replace HB := Aside0.mk (hb); replace HI0 := Aside0.mk (hi); (try clear hb); (try clear hb2); (try clear hk); (try clear hi)) | ((with_reducible refine uI (N := 3) rfl ?_); refine bxe 3 #[.int .i64 0, .int .i64 0, .int .i64 0, .int .i64 0, .int .i64 0, .int .i64 0] 37 ?_; intro gb275 hg w40 hbox hb; have BK275 := Aside0.mk (hbox); have GW275 := tKGe HK hg; have GE275 := tKW HW0 HK hg; have NB266_275 := tNl BK266 hg; have NB275_266 := tNg BK266 hg; have NB0_275 := Aside0.mk ((by rw [hg]; exact Nat.ne_of_lt (IsS112.lt (show IsS112 w0 _ g s0_0 t273 t274 from by repeat (first | (with_reducible first | exact HI0.out | apply IsS112.alloc | apply IsS112.drewN | apply IsS112.drew | apply IsS112.set_1 | apply IsS112.set_2 | refine IsS112.far ?_ NB0_266.out _) | exact HI0.out))) : g ≠ gb275)); have NB275_0 := Aside0.mk ((by rw [hg]; exact Nat.ne_of_gt (IsS112.lt (show IsS112 w0 _ g s0_0 t273 t274 from by repeat (first | (with_reducible first | exact HI0.out | apply IsS112.alloc | apply IsS112.drewN | apply IsS112.drew | apply IsS112.set_1 | apply IsS112.set_2 | refine IsS112.far ?_ NB0_266.out _) | exact HI0.out))) : gb275 ≠ g)); replace HI0 := Aside0.mk (IsS112.below q8 hb); replace BK266 := uL BK266 hb; replace HK := uU HK (uX.of_below hb g none); replace HB := tBel1 HB hb; clear hb hbox hg; have hnb41 := NB275_266.out; have hnc41 := NB266_275.out; have hnb42 := NB275_0.out; have hnc42 := NB0_275.out; obtain ⟨hcz43_0, hcz43_1, hcz43_2, hcz43_3, hcz43_4, hcz43_5, hfz43_0, hfz43_1, hfz43_2, hfz43_3, hfz43_4, hfz43_5⟩ := cz6 BK275) | ((with_reducible refine uH (f := 74) rfl ?_); refine vC (some 7) Try.func74 #[.pointer (some ⟨g, 0, none⟩), .int .i64 14] ?_; (with_reducible refine (spec_l1Below.calls g s0_0 t273 t274 14 t276 t277 t278 w0 _ ?side1 ?side2 A3.out).mono ?_); (case side1 => exact q4); (case side2 => exact q0); rintro e w44 ⟨rfl, hi, hb, hk⟩; refine ⟨_, rfl, ?_⟩; replace BK266 := tKBlkF BK266 hk NB266_0; replace BK275 := tKBlkP BK275 #[.int .i64 t267, .int .i64 t268, .int .i64 t269, .int .i64 t270, .int .i64 t271, .int .i64 t272] hk NB275_0; replace HK := uU HK hk; replace HB := Aside0.mk (hb); replace HI0 := Aside0.mk (hi); (try clear hb); (try clear hb2); (try clear hk); (try clear hi)) | ((with_reducible refine uH (f := 74) rfl ?_); refine vC (some 23) Try.func74 #[.pointer (some ⟨g, 0, none⟩), .int .i64 4] ?_; (with_reducible refine (spec_l1Below.calls g s0_0 t277 t278 4 t291 t292 t293 w0 _ ?side1 ?side2 A37.out).mono ?_); (case side1 => exact q4); (case side2 => exact q0); rintro e w45 ⟨rfl, hi, hb, hk⟩; refine ⟨_, rfl, ?_⟩; replace BK266 := vH BK266 hk NB266_0; replace BK275 := vH BK275 hk NB275_0; replace HK := uU HK hk; replace HB := Aside0.mk (hb); replace HI0 := Aside0.mk (hi); (try clear hb); (try clear hb2); (try clear hk); (try clear hi); obtain ⟨hcz46_0, hcz46_1, hcz46_2, hcz46_3, hcz46_4, hcz46_5, hfz46_0, hfz46_1, hfz46_2, hfz46_3, hfz46_4, hfz46_5⟩ := cz6 BK275; have hnb47 := NB266_0.out; have hnc47 := NB0_266.out; obtain ⟨hcz48_0, hcz48_1, hcz48_2, hcz48_3, hcz48_4, hcz48_5, hfz48_0, hfz48_1, hfz48_2, hfz48_3, hfz48_4, hfz48_5⟩ := cz6 BK266))
    refine bodyPost_ret (results_cell_row rfl _ _ gb266 37 #[.int .i64 t267, .int .i64 t268, .int .i64 t291, .int .i64 t270, .int .i64 t271, .int .i64 t272] (0, 0) _ rfl (by (with_reducible repeat (first | refine uF ?_ _ | refine uB ?_ | refine uE ?_ _)); refine uK (cs := #[.int .i64 t267, .int .i64 t268, .int .i64 t291, .int .i64 t270, .int .i64 t271, .int .i64 0]) ?_ 5 _ rfl; (with_reducible repeat (first | refine uF ?_ _ | refine uB ?_ | refine uE ?_ _)); refine uK (cs := #[.int .i64 t267, .int .i64 t268, .int .i64 t291, .int .i64 t270, .int .i64 0, .int .i64 0]) ?_ 4 _ rfl; (with_reducible repeat (first | refine uF ?_ _ | refine uB ?_ | refine uE ?_ _)); refine uK (cs := #[.int .i64 t267, .int .i64 t268, .int .i64 t291, .int .i64 0, .int .i64 0, .int .i64 0]) ?_ 3 _ rfl; (with_reducible repeat (first | refine uF ?_ _ | refine uB ?_ | refine uE ?_ _)); refine uK (cs := #[.int .i64 t267, .int .i64 t268, .int .i64 0, .int .i64 0, .int .i64 0, .int .i64 0]) ?_ 2 _ rfl; (with_reducible repeat (first | refine uF ?_ _ | refine uB ?_ | refine uE ?_ _)); refine uK (cs := #[.int .i64 t267, .int .i64 0, .int .i64 0, .int .i64 0, .int .i64 0, .int .i64 0]) ?_ 1 _ rfl; (with_reducible repeat (first | refine uF ?_ _ | refine uB ?_ | refine uE ?_ _)); refine uK (cs := #[.int .i64 0, .int .i64 0, .int .i64 0, .int .i64 0, .int .i64 0, .int .i64 0]) ?_ 0 _ rfl; (with_reducible repeat (first | refine uF ?_ _ | refine uB ?_ | refine uE ?_ _)); refine vF ?_ NB266_275.out _; (with_reducible repeat (first | refine uF ?_ _ | refine uB ?_ | refine uE ?_ _)); exact BK266.out) Try.underlying37 rfl (by kernel_rfl)) rfl ?_
    exact ⟨q5, q4, q0, q2⟩
  rw [if_neg c36] at H
  have c36b0 : (t276 == 2) = false := beq_eq_false_iff_ne.mpr c36
  have c36b1 : (t276 != 2) = true := bne_iff_ne.mpr c36
  by_cases c49 : t276 = 3
  · rw [if_pos c49] at H
    have c49b0 : (t276 == 3) = true := beq_iff_eq.mpr c49
    have c49b1 : (t276 != 3) = false := bne_eq_false_iff_eq.mpr c49
    clear c49
    obtain ⟨y294, hy294⟩ : ∃ y_ : List Int, y_ = (([(-1), 3] : List Int)) := ⟨_, rfl⟩
    replace H : ((spec_l1PickInt.f s0_0 t277 t278 y294).bind fun bt297 => (some (t267, t268, t269, bt297.1, t271, t272, bt297.2.1, bt297.2.2))) = some (r1, r2, r3, r4, r5, r6, r7, r8) := by first | (rw [hy294]; with_reducible exact H) | (have H2_ := (Option.bind_some _ _).symm.trans H; rw [hy294]; with_reducible exact H2_) | (have H2_ := (Option.bind_some _ _).symm.trans H; with_reducible exact H2_) | with_reducible exact H | (rw [hy294]; exact H) | exact H | rfl
    have Ny294 := Aside0.mk hy294
    clear hy294
    replace H := Option.bind_eq_some_iff.mp H
    obtain ⟨⟨t297, t298, t299⟩, A500, H⟩ := H
    try dsimp only at H
    have A50 := Aside0.mk A500
    clear A500
    simp only [Option.some.injEq, Prod.mk.injEq] at H
    obtain ⟨rfl, rfl, rfl, rfl, rfl, rfl, rfl, rfl⟩ := H
    go_wp2_with (first | ((with_reducible refine uH (f := 85) rfl ?_); refine vC (some 5) Try.func85 #[.pointer (some ⟨g, 0, none⟩)] ?_; (with_reducible refine (spec_l3Op.calls g s0_0 s0_1 s0_2 t267 t268 t269 t270 t271 t272 t273 t274 w0 _ ?side1 ?side2 A2.out).mono ?_); (case side1 => exact q8); (case side2 => exact q0); rintro e w52 ⟨rfl, hi, hb, hk⟩; refine ⟨_, rfl, ?_⟩; replace BK266 := vH BK266 hk NB266_0; replace HK := uU HK hk; replace HB := Aside0.mk (hb); replace HI0 := Aside0.mk (hi); (try clear hb); (try clear hb2); (try clear hk); (try clear hi)) | ((with_reducible refine uI (N := 3) rfl ?_); refine bxe 3 #[.int .i64 0, .int .i64 0, .int .i64 0, .int .i64 0, .int .i64 0, .int .i64 0] 37 ?_; intro gb275 hg w53 hbox hb; have BK275 := Aside0.mk (hbox); have GW275 := tKGe HK hg; have GE275 := tKW HW0 HK hg; have NB266_275 := tNl BK266 hg; have NB275_266 := tNg BK266 hg; have NB0_275 := Aside0.mk ((by rw [hg]; exact Nat.ne_of_lt (IsS112.lt (show IsS112 w0 _ g s0_0 t273 t274 from by repeat (first | (with_reducible first | exact HI0.out | apply IsS112.alloc | apply IsS112.drewN | apply IsS112.drew | apply IsS112.set_1 | apply IsS112.set_2 | refine IsS112.far ?_ NB0_266.out _) | exact HI0.out))) : g ≠ gb275)); have NB275_0 := Aside0.mk ((by rw [hg]; exact Nat.ne_of_gt (IsS112.lt (show IsS112 w0 _ g s0_0 t273 t274 from by repeat (first | (with_reducible first | exact HI0.out | apply IsS112.alloc | apply IsS112.drewN | apply IsS112.drew | apply IsS112.set_1 | apply IsS112.set_2 | refine IsS112.far ?_ NB0_266.out _) | exact HI0.out))) : gb275 ≠ g)); replace HI0 := Aside0.mk (IsS112.below q8 hb); replace BK266 := uL BK266 hb; replace HK := uU HK (uX.of_below hb g none); replace HB := tBel1 HB hb; clear hb hbox hg; have hnb54 := NB275_266.out; have hnc54 := NB266_275.out; have hnb55 := NB275_0.out; have hnc55 := NB0_275.out; obtain ⟨hcz56_0, hcz56_1, hcz56_2, hcz56_3, hcz56_4, hcz56_5, hfz56_0, hfz56_1, hfz56_2, hfz56_3, hfz56_4, hfz56_5⟩ := cz6 BK275) | ((with_reducible refine uH (f := 74) rfl ?_); refine vC (some 7) Try.func74 #[.pointer (some ⟨g, 0, none⟩), .int .i64 14] ?_; (with_reducible refine (spec_l1Below.calls g s0_0 t273 t274 14 t276 t277 t278 w0 _ ?side1 ?side2 A3.out).mono ?_); (case side1 => exact q4); (case side2 => exact q0); rintro e w57 ⟨rfl, hi, hb, hk⟩; refine ⟨_, rfl, ?_⟩; replace BK266 := tKBlkF BK266 hk NB266_0; replace BK275 := tKBlkP BK275 #[.int .i64 t267, .int .i64 t268, .int .i64 t269, .int .i64 t270, .int .i64 t271, .int .i64 t272] hk NB275_0; replace HK := uU HK hk; replace HB := Aside0.mk (hb); replace HI0 := Aside0.mk (hi); (try clear hb); (try clear hb2); (try clear hk); (try clear hi)) | ((with_reducible refine uI (N := 28) rfl ?_); refine Kd.R_lit (Kd.int .i64) _ 3 ?hg (N := 28) ?hd (xs := ([(-1), 3] : List Int)) (inner := [.int .i64 (-1), .int .i64 3]) (ok := fun _ => True) (okp := fun _ => True) ?hr ?hp (fun _ hk => hk) trivial (Below.refl _ _) (Nat.le_refl _) (by simp) ?_; (case hd => rfl); (case hg => rfl); (case hr => first | (go_simp; done) | (go_simp; rfl)); (case hp => exact (Reps.one (show Kd.M (Kd.int .i64) _ _ _ (-1) [.int .i64 (-1)] from rfl) (Reps.one (show Kd.M (Kd.int .i64) _ _ _ 3 [.int .i64 3] from rfl) (Reps.none _ _)))); intro v295 w58 ho59 hb hg_ hnew_; clear hg_ hnew_; (first | rw [← Ny294.out] at ho59 | (simp only [Int.reduceToNat] at ho59; rw [← Ny294.out] at ho59)); have HO296 := Aside0.mk (Kd.vG ho59 (vN (w := w) (g := g) (row := none) q2)); replace HI0 := Aside0.mk (IsS112.below q4 hb); replace BK266 := uL BK266 hb; replace BK275 := uL BK275 hb; replace HK := uU HK (uX.of_below hb g none); replace HB := tBel1 HB hb; clear hb ho59; obtain ⟨Ao60, co60, eo60⟩ := Kd.uW HO296.out; subst eo60) | ((with_reducible refine uH (f := 75) rfl ?_); refine vC (some 29) Try.func75 #[.pointer (some ⟨g, 0, none⟩), .slice Ao60 y294.length co60] ?_; (with_reducible refine (spec_l1PickInt.calls g s0_0 t277 t278 _ _ y294 t297 t298 t299 w0 _ ?side1 ?side2 ?side3 ?side4 ?side5 A50.out).mono ?_); (case side1 => exact q4); (case side2 => exact q0); (case side3 => repeat (first | exact (Kd.uP HO296.out).2.2 | (with_reducible refine Kd.vJ ?_ _) | (with_reducible refine Kd.vK ?_ _) | (with_reducible refine Kd.C_drew ?_))); (case side4 => exact (Kd.uP HO296.out).2.1); (case side5 => exact far_slice (IsS112.own_ne HI0.out HO296.out (by decide))); rintro e w61 ⟨rfl, hi, hb, hk⟩; refine ⟨_, rfl, ?_⟩; replace BK266 := vH BK266 hk NB266_0; replace BK275 := vH BK275 hk NB275_0; replace HO296 := Aside0.mk (Kd.uJ (Kd.vI (IsS112.apart (show IsS112 w0 _ g s0_0 t277 t278 from by repeat (first | (with_reducible first | exact HI0.out | apply IsS112.alloc | apply IsS112.drewN | apply IsS112.drew | apply IsS112.set_1 | apply IsS112.set_2 | refine IsS112.far ?_ NB0_266.out _ | refine IsS112.far ?_ NB0_275.out _) | exact HI0.out)) (rSR HO296.out) (by decide)) hk (fun _ h => h.2)) (fun _ h => h.1)); replace HK := uU HK hk; replace HB := Aside0.mk (hb); replace HI0 := Aside0.mk (hi); (try clear hb); (try clear hb2); (try clear hk); (try clear hi); obtain ⟨hcz62_0, hcz62_1, hcz62_2, hcz62_3, hcz62_4, hcz62_5, hfz62_0, hfz62_1, hfz62_2, hfz62_3, hfz62_4, hfz62_5⟩ := cz6 BK275; have hnb63 := NB266_0.out; have hnc63 := NB0_266.out; obtain ⟨hcz64_0, hcz64_1, hcz64_2, hcz64_3, hcz64_4, hcz64_5, hfz64_0, hfz64_1, hfz64_2, hfz64_3, hfz64_4, hfz64_5⟩ := cz6 BK266))
    refine bodyPost_ret (results_cell_row rfl _ _ gb266 37 #[.int .i64 t267, .int .i64 t268, .int .i64 t269, .int .i64 t297, .int .i64 t271, .int .i64 t272] (0, 0) _ rfl (by (with_reducible repeat (first | refine uF ?_ _ | refine uB ?_ | refine uE ?_ _)); refine uK (cs := #[.int .i64 t267, .int .i64 t268, .int .i64 t269, .int .i64 t297, .int .i64 t271, .int .i64 0]) ?_ 5 _ rfl; (with_reducible repeat (first | refine uF ?_ _ | refine uB ?_ | refine uE ?_ _)); refine uK (cs := #[.int .i64 t267, .int .i64 t268, .int .i64 t269, .int .i64 t297, .int .i64 0, .int .i64 0]) ?_ 4 _ rfl; (with_reducible repeat (first | refine uF ?_ _ | refine uB ?_ | refine uE ?_ _)); refine uK (cs := #[.int .i64 t267, .int .i64 t268, .int .i64 t269, .int .i64 0, .int .i64 0, .int .i64 0]) ?_ 3 _ rfl; (with_reducible repeat (first | refine uF ?_ _ | refine uB ?_ | refine uE ?_ _)); refine uK (cs := #[.int .i64 t267, .int .i64 t268, .int .i64 0, .int .i64 0, .int .i64 0, .int .i64 0]) ?_ 2 _ rfl; (with_reducible repeat (first | refine uF ?_ _ | refine uB ?_ | refine uE ?_ _)); refine uK (cs := #[.int .i64 t267, .int .i64 0, .int .i64 0, .int .i64 0, .int .i64 0, .int .i64 0]) ?_ 1 _ rfl; (with_reducible repeat (first | refine uF ?_ _ | refine uB ?_ | refine uE ?_ _)); refine uK (cs := #[.int .i64 0, .int .i64 0, .int .i64 0, .int .i64 0, .int .i64 0, .int .i64 0]) ?_ 0 _ rfl; (with_reducible repeat (first | refine uF ?_ _ | refine uB ?_ | refine uE ?_ _)); refine vF ?_ NB266_275.out _; (with_reducible repeat (first | refine uF ?_ _ | refine uB ?_ | refine uE ?_ _)); exact BK266.out) Try.underlying37 rfl (by kernel_rfl)) rfl ?_
    exact ⟨q5, q4, q0, q2⟩
  rw [if_neg c49] at H
  have c49b0 : (t276 == 3) = false := beq_eq_false_iff_ne.mpr c49
  have c49b1 : (t276 != 3) = true := bne_iff_ne.mpr c49
  by_cases c65 : t276 = 4
  · rw [if_pos c65] at H
    have c65b0 : (t276 == 4) = true := beq_iff_eq.mpr c65
    have c65b1 : (t276 != 4) = false := bne_eq_false_iff_eq.mpr c65
    clear c65
    obtain ⟨y300, hy300⟩ : ∃ y_ : List Int, y_ = (([(-1), 9, 10] : List Int)) := ⟨_, rfl⟩
    replace H : ((spec_l1PickInt.f s0_0 t277 t278 y300).bind fun bt303 => (some (t267, t268, t269, t270, t271, bt303.1, bt303.2.1, bt303.2.2))) = some (r1, r2, r3, r4, r5, r6, r7, r8) := by first | (rw [hy300]; with_reducible exact H) | (have H2_ := (Option.bind_some _ _).symm.trans H; rw [hy300]; with_reducible exact H2_) | (have H2_ := (Option.bind_some _ _).symm.trans H; with_reducible exact H2_) | with_reducible exact H | (rw [hy300]; exact H) | exact H | rfl
    have Ny300 := Aside0.mk hy300
    clear hy300
    replace H := Option.bind_eq_some_iff.mp H
    obtain ⟨⟨t303, t304, t305⟩, A660, H⟩ := H
    try dsimp only at H
    have A66 := Aside0.mk A660
    clear A660
    simp only [Option.some.injEq, Prod.mk.injEq] at H
    obtain ⟨rfl, rfl, rfl, rfl, rfl, rfl, rfl, rfl⟩ := H
    go_wp2_with (first | ((with_reducible refine uH (f := 85) rfl ?_); refine vC (some 5) Try.func85 #[.pointer (some ⟨g, 0, none⟩)] ?_; (with_reducible refine (spec_l3Op.calls g s0_0 s0_1 s0_2 t267 t268 t269 t270 t271 t272 t273 t274 w0 _ ?side1 ?side2 A2.out).mono ?_); (case side1 => exact q8); (case side2 => exact q0); rintro e w68 ⟨rfl, hi, hb, hk⟩; refine ⟨_, rfl, ?_⟩; replace BK266 := vH BK266 hk NB266_0; replace HK := uU HK hk; replace HB := Aside0.mk (hb); replace HI0 := Aside0.mk (hi); (try clear hb); (try clear hb2); (try clear hk); (try clear hi)) | ((with_reducible refine uI (N := 3) rfl ?_); refine bxe 3 #[.int .i64 0, .int .i64 0, .int .i64 0, .int .i64 0, .int .i64 0, .int .i64 0] 37 ?_; intro gb275 hg w69 hbox hb; have BK275 := Aside0.mk (hbox); have GW275 := tKGe HK hg; have GE275 := tKW HW0 HK hg; have NB266_275 := tNl BK266 hg; have NB275_266 := tNg BK266 hg; have NB0_275 := Aside0.mk ((by rw [hg]; exact Nat.ne_of_lt (IsS112.lt (show IsS112 w0 _ g s0_0 t273 t274 from by repeat (first | (with_reducible first | exact HI0.out | apply IsS112.alloc | apply IsS112.drewN | apply IsS112.drew | apply IsS112.set_1 | apply IsS112.set_2 | refine IsS112.far ?_ NB0_266.out _) | exact HI0.out))) : g ≠ gb275)); have NB275_0 := Aside0.mk ((by rw [hg]; exact Nat.ne_of_gt (IsS112.lt (show IsS112 w0 _ g s0_0 t273 t274 from by repeat (first | (with_reducible first | exact HI0.out | apply IsS112.alloc | apply IsS112.drewN | apply IsS112.drew | apply IsS112.set_1 | apply IsS112.set_2 | refine IsS112.far ?_ NB0_266.out _) | exact HI0.out))) : gb275 ≠ g)); replace HI0 := Aside0.mk (IsS112.below q8 hb); replace BK266 := uL BK266 hb; replace HK := uU HK (uX.of_below hb g none); replace HB := tBel1 HB hb; clear hb hbox hg; have hnb70 := NB275_266.out; have hnc70 := NB266_275.out; have hnb71 := NB275_0.out; have hnc71 := NB0_275.out; obtain ⟨hcz72_0, hcz72_1, hcz72_2, hcz72_3, hcz72_4, hcz72_5, hfz72_0, hfz72_1, hfz72_2, hfz72_3, hfz72_4, hfz72_5⟩ := cz6 BK275) | ((with_reducible refine uH (f := 74) rfl ?_); refine vC (some 7) Try.func74 #[.pointer (some ⟨g, 0, none⟩), .int .i64 14] ?_; (with_reducible refine (spec_l1Below.calls g s0_0 t273 t274 14 t276 t277 t278 w0 _ ?side1 ?side2 A3.out).mono ?_); (case side1 => exact q4); (case side2 => exact q0); rintro e w73 ⟨rfl, hi, hb, hk⟩; refine ⟨_, rfl, ?_⟩; replace BK266 := tKBlkF BK266 hk NB266_0; replace BK275 := tKBlkP BK275 #[.int .i64 t267, .int .i64 t268, .int .i64 t269, .int .i64 t270, .int .i64 t271, .int .i64 t272] hk NB275_0; replace HK := uU HK hk; replace HB := Aside0.mk (hb); replace HI0 := Aside0.mk (hi); (try clear hb); (try clear hb2); (try clear hk); (try clear hi)) | ((with_reducible refine uI (N := 34) rfl ?_); refine Kd.R_lit (Kd.int .i64) _ 3 ?hg (N := 34) ?hd (xs := ([(-1), 9, 10] : List Int)) (inner := [.int .i64 (-1), .int .i64 9, .int .i64 10]) (ok := fun _ => True) (okp := fun _ => True) ?hr ?hp (fun _ hk => hk) trivial (Below.refl _ _) (Nat.le_refl _) (by simp) ?_; (case hd => rfl); (case hg => rfl); (case hr => first | (go_simp; done) | (go_simp; rfl)); (case hp => exact (Reps.one (show Kd.M (Kd.int .i64) _ _ _ (-1) [.int .i64 (-1)] from rfl) (Reps.one (show Kd.M (Kd.int .i64) _ _ _ 9 [.int .i64 9] from rfl) (Reps.one (show Kd.M (Kd.int .i64) _ _ _ 10 [.int .i64 10] from rfl) (Reps.none _ _))))); intro v301 w74 ho75 hb hg_ hnew_; clear hg_ hnew_; (first | rw [← Ny300.out] at ho75 | (simp only [Int.reduceToNat] at ho75; rw [← Ny300.out] at ho75)); have HO302 := Aside0.mk (Kd.vG ho75 (vN (w := w) (g := g) (row := none) q2)); replace HI0 := Aside0.mk (IsS112.below q4 hb); replace BK266 := uL BK266 hb; replace BK275 := uL BK275 hb; replace HK := uU HK (uX.of_below hb g none); replace HB := tBel1 HB hb; clear hb ho75; obtain ⟨Ao76, co76, eo76⟩ := Kd.uW HO302.out; subst eo76) | ((with_reducible refine uH (f := 75) rfl ?_); refine vC (some 35) Try.func75 #[.pointer (some ⟨g, 0, none⟩), .slice Ao76 y300.length co76] ?_; (with_reducible refine (spec_l1PickInt.calls g s0_0 t277 t278 _ _ y300 t303 t304 t305 w0 _ ?side1 ?side2 ?side3 ?side4 ?side5 A66.out).mono ?_); (case side1 => exact q4); (case side2 => exact q0); (case side3 => repeat (first | exact (Kd.uP HO302.out).2.2 | (with_reducible refine Kd.vJ ?_ _) | (with_reducible refine Kd.vK ?_ _) | (with_reducible refine Kd.C_drew ?_))); (case side4 => exact (Kd.uP HO302.out).2.1); (case side5 => exact far_slice (IsS112.own_ne HI0.out HO302.out (by decide))); rintro e w77 ⟨rfl, hi, hb, hk⟩; refine ⟨_, rfl, ?_⟩; replace BK266 := vH BK266 hk NB266_0; replace BK275 := vH BK275 hk NB275_0; replace HO302 := Aside0.mk (Kd.uJ (Kd.vI (IsS112.apart (show IsS112 w0 _ g s0_0 t277 t278 from by repeat (first | (with_reducible first | exact HI0.out | apply IsS112.alloc | apply IsS112.drewN | apply IsS112.drew | apply IsS112.set_1 | apply IsS112.set_2 | refine IsS112.far ?_ NB0_266.out _ | refine IsS112.far ?_ NB0_275.out _) | exact HI0.out)) (rSR HO302.out) (by decide)) hk (fun _ h => h.2)) (fun _ h => h.1)); replace HK := uU HK hk; replace HB := Aside0.mk (hb); replace HI0 := Aside0.mk (hi); (try clear hb); (try clear hb2); (try clear hk); (try clear hi); obtain ⟨hcz78_0, hcz78_1, hcz78_2, hcz78_3, hcz78_4, hcz78_5, hfz78_0, hfz78_1, hfz78_2, hfz78_3, hfz78_4, hfz78_5⟩ := cz6 BK275; have hnb79 := NB266_0.out; have hnc79 := NB0_266.out; obtain ⟨hcz80_0, hcz80_1, hcz80_2, hcz80_3, hcz80_4, hcz80_5, hfz80_0, hfz80_1, hfz80_2, hfz80_3, hfz80_4, hfz80_5⟩ := cz6 BK266))
    refine bodyPost_ret (results_cell_row rfl _ _ gb266 37 #[.int .i64 t267, .int .i64 t268, .int .i64 t269, .int .i64 t270, .int .i64 t271, .int .i64 t303] (0, 0) _ rfl (by (with_reducible repeat (first | refine uF ?_ _ | refine uB ?_ | refine uE ?_ _)); refine uK (cs := #[.int .i64 t267, .int .i64 t268, .int .i64 t269, .int .i64 t270, .int .i64 t271, .int .i64 0]) ?_ 5 _ rfl; (with_reducible repeat (first | refine uF ?_ _ | refine uB ?_ | refine uE ?_ _)); refine uK (cs := #[.int .i64 t267, .int .i64 t268, .int .i64 t269, .int .i64 t270, .int .i64 0, .int .i64 0]) ?_ 4 _ rfl; (with_reducible repeat (first | refine uF ?_ _ | refine uB ?_ | refine uE ?_ _)); refine uK (cs := #[.int .i64 t267, .int .i64 t268, .int .i64 t269, .int .i64 0, .int .i64 0, .int .i64 0]) ?_ 3 _ rfl; (with_reducible repeat (first | refine uF ?_ _ | refine uB ?_ | refine uE ?_ _)); refine uK (cs := #[.int .i64 t267, .int .i64 t268, .int .i64 0, .int .i64 0, .int .i64 0, .int .i64 0]) ?_ 2 _ rfl; (with_reducible repeat (first | refine uF ?_ _ | refine uB ?_ | refine uE ?_ _)); refine uK (cs := #[.int .i64 t267, .int .i64 0, .int .i64 0, .int .i64 0, .int .i64 0, .int .i64 0]) ?_ 1 _ rfl; (with_reducible repeat (first | refine uF ?_ _ | refine uB ?_ | refine uE ?_ _)); refine uK (cs := #[.int .i64 0, .int .i64 0, .int .i64 0, .int .i64 0, .int .i64 0, .int .i64 0]) ?_ 0 _ rfl; (with_reducible repeat (first | refine uF ?_ _ | refine uB ?_ | refine uE ?_ _)); refine vF ?_ NB266_275.out _; (with_reducible repeat (first | refine uF ?_ _ | refine uB ?_ | refine uE ?_ _)); exact BK266.out) Try.underlying37 rfl (by kernel_rfl)) rfl ?_
    exact ⟨q5, q4, q0, q2⟩
  rw [if_neg c65] at H
  have c65b0 : (t276 == 4) = false := beq_eq_false_iff_ne.mpr c65
  have c65b1 : (t276 != 4) = true := bne_iff_ne.mpr c65
  by_cases c81 : t276 = 5
  rotate_left
  · rw [if_neg c81] at H
    have c81b0 : (t276 == 5) = false := beq_eq_false_iff_ne.mpr c81
    have c81b1 : (t276 != 5) = true := bne_iff_ne.mpr c81
    simp only [Option.some.injEq, Prod.mk.injEq] at H
    obtain ⟨rfl, rfl, rfl, rfl, rfl, rfl, rfl, rfl⟩ := H
    go_wp2_with (first | ((with_reducible refine uH (f := 85) rfl ?_); refine vC (some 5) Try.func85 #[.pointer (some ⟨g, 0, none⟩)] ?_; (with_reducible refine (spec_l3Op.calls g s0_0 s0_1 s0_2 t267 t268 t269 t270 t271 t272 t273 t274 w0 _ ?side1 ?side2 A2.out).mono ?_); (case side1 => exact q8); (case side2 => exact q0); rintro e w98 ⟨rfl, hi, hb, hk⟩; refine ⟨_, rfl, ?_⟩; replace BK266 := vH BK266 hk NB266_0; replace HK := uU HK hk; replace HB := Aside0.mk (hb); replace HI0 := Aside0.mk (hi); (try clear hb); (try clear hb2); (try clear hk); (try clear hi)) | ((with_reducible refine uI (N := 3) rfl ?_); refine bxe 3 #[.int .i64 0, .int .i64 0, .int .i64 0, .int .i64 0, .int .i64 0, .int .i64 0] 37 ?_; intro gb275 hg w99 hbox hb; have BK275 := Aside0.mk (hbox); have GW275 := tKGe HK hg; have GE275 := tKW HW0 HK hg; have NB266_275 := tNl BK266 hg; have NB275_266 := tNg BK266 hg; have NB0_275 := Aside0.mk ((by rw [hg]; exact Nat.ne_of_lt (IsS112.lt (show IsS112 w0 _ g s0_0 t273 t274 from by repeat (first | (with_reducible first | exact HI0.out | apply IsS112.alloc | apply IsS112.drewN | apply IsS112.drew | apply IsS112.set_1 | apply IsS112.set_2 | refine IsS112.far ?_ NB0_266.out _) | exact HI0.out))) : g ≠ gb275)); have NB275_0 := Aside0.mk ((by rw [hg]; exact Nat.ne_of_gt (IsS112.lt (show IsS112 w0 _ g s0_0 t273 t274 from by repeat (first | (with_reducible first | exact HI0.out | apply IsS112.alloc | apply IsS112.drewN | apply IsS112.drew | apply IsS112.set_1 | apply IsS112.set_2 | refine IsS112.far ?_ NB0_266.out _) | exact HI0.out))) : gb275 ≠ g)); replace HI0 := Aside0.mk (IsS112.below q8 hb); replace BK266 := uL BK266 hb; replace HK := uU HK (uX.of_below hb g none); replace HB := tBel1 HB hb; clear hb hbox hg; have hnb100 := NB275_266.out; have hnc100 := NB266_275.out; have hnb101 := NB275_0.out; have hnc101 := NB0_275.out; obtain ⟨hcz102_0, hcz102_1, hcz102_2, hcz102_3, hcz102_4, hcz102_5, hfz102_0, hfz102_1, hfz102_2, hfz102_3, hfz102_4, hfz102_5⟩ := cz6 BK275) | ((with_reducible refine uH (f := 74) rfl ?_); refine vC (some 7) Try.func74 #[.pointer (some ⟨g, 0, none⟩), .int .i64 14] ?_; (with_reducible refine (spec_l1Below.calls g s0_0 t273 t274 14 t276 t277 t278 w0 _ ?side1 ?side2 A3.out).mono ?_); (case side1 => exact q4); (case side2 => exact q0); rintro e w103 ⟨rfl, hi, hb, hk⟩; refine ⟨_, rfl, ?_⟩; replace BK266 := tKBlkF BK266 hk NB266_0; replace BK275 := tKBlkP BK275 #[.int .i64 t267, .int .i64 t268, .int .i64 t269, .int .i64 t270, .int .i64 t271, .int .i64 t272] hk NB275_0; replace HK := uU HK hk; replace HB := Aside0.mk (hb); replace HI0 := Aside0.mk (hi); (try clear hb); (try clear hb2); (try clear hk); (try clear hi); obtain ⟨hcz104_0, hcz104_1, hcz104_2, hcz104_3, hcz104_4, hcz104_5, hfz104_0, hfz104_1, hfz104_2, hfz104_3, hfz104_4, hfz104_5⟩ := cz6 BK275; have hnb105 := NB266_0.out; have hnc105 := NB0_266.out; obtain ⟨hcz106_0, hcz106_1, hcz106_2, hcz106_3, hcz106_4, hcz106_5, hfz106_0, hfz106_1, hfz106_2, hfz106_3, hfz106_4, hfz106_5⟩ := cz6 BK266))
    refine bodyPost_ret (results_cell_row rfl _ _ gb266 37 #[.int .i64 t267, .int .i64 t268, .int .i64 t269, .int .i64 t270, .int .i64 t271, .int .i64 t272] (0, 0) _ rfl (by (with_reducible repeat (first | refine uF ?_ _ | refine uB ?_ | refine uE ?_ _)); refine uK (cs := #[.int .i64 t267, .int .i64 t268, .int .i64 t269, .int .i64 t270, .int .i64 t271, .int .i64 0]) ?_ 5 _ rfl; (with_reducible repeat (first | refine uF ?_ _ | refine uB ?_ | refine uE ?_ _)); refine uK (cs := #[.int .i64 t267, .int .i64 t268, .int .i64 t269, .int .i64 t270, .int .i64 0, .int .i64 0]) ?_ 4 _ rfl; (with_reducible repeat (first | refine uF ?_ _ | refine uB ?_ | refine uE ?_ _)); refine uK (cs := #[.int .i64 t267, .int .i64 t268, .int .i64 t269, .int .i64 0, .int .i64 0, .int .i64 0]) ?_ 3 _ rfl; (with_reducible repeat (first | refine uF ?_ _ | refine uB ?_ | refine uE ?_ _)); refine uK (cs := #[.int .i64 t267, .int .i64 t268, .int .i64 0, .int .i64 0, .int .i64 0, .int .i64 0]) ?_ 2 _ rfl; (with_reducible repeat (first | refine uF ?_ _ | refine uB ?_ | refine uE ?_ _)); refine uK (cs := #[.int .i64 t267, .int .i64 0, .int .i64 0, .int .i64 0, .int .i64 0, .int .i64 0]) ?_ 1 _ rfl; (with_reducible repeat (first | refine uF ?_ _ | refine uB ?_ | refine uE ?_ _)); refine uK (cs := #[.int .i64 0, .int .i64 0, .int .i64 0, .int .i64 0, .int .i64 0, .int .i64 0]) ?_ 0 _ rfl; (with_reducible repeat (first | refine uF ?_ _ | refine uB ?_ | refine uE ?_ _)); exact BK266.out) Try.underlying37 rfl (by kernel_rfl)) rfl ?_
    exact ⟨q5, q4, q0, q2⟩
  rw [if_pos c81] at H
  have c81b0 : (t276 == 5) = true := beq_iff_eq.mpr c81
  have c81b1 : (t276 != 5) = false := bne_eq_false_iff_eq.mpr c81
  clear c81
  obtain ⟨y306, hy306⟩ : ∃ y_ : List Int, y_ = (([(-1), 0, 9, 10] : List Int)) := ⟨_, rfl⟩
  replace H : ((spec_l1PickInt.f s0_0 t277 t278 y306).bind fun bt309 => (some (t267, t268, t269, t270, bt309.1, t272, bt309.2.1, bt309.2.2))) = some (r1, r2, r3, r4, r5, r6, r7, r8) := by first | (rw [hy306]; with_reducible exact H) | (have H2_ := (Option.bind_some _ _).symm.trans H; rw [hy306]; with_reducible exact H2_) | (have H2_ := (Option.bind_some _ _).symm.trans H; with_reducible exact H2_) | with_reducible exact H | (rw [hy306]; exact H) | exact H | rfl
  have Ny306 := Aside0.mk hy306
  clear hy306
  replace H := Option.bind_eq_some_iff.mp H
  obtain ⟨⟨t309, t310, t311⟩, A820, H⟩ := H
  try dsimp only at H
  have A82 := Aside0.mk A820
  clear A820
  simp only [Option.some.injEq, Prod.mk.injEq] at H
  obtain ⟨rfl, rfl, rfl, rfl, rfl, rfl, rfl, rfl⟩ := H
  go_wp2_with (first | ((with_reducible refine uH (f := 85) rfl ?_); refine vC (some 5) Try.func85 #[.pointer (some ⟨g, 0, none⟩)] ?_; (with_reducible refine (spec_l3Op.calls g s0_0 s0_1 s0_2 t267 t268 t269 t270 t271 t272 t273 t274 w0 _ ?side1 ?side2 A2.out).mono ?_); (case side1 => exact q8); (case side2 => exact q0); rintro e w84 ⟨rfl, hi, hb, hk⟩; refine ⟨_, rfl, ?_⟩; replace BK266 := vH BK266 hk NB266_0; replace HK := uU HK hk; replace HB := Aside0.mk (hb); replace HI0 := Aside0.mk (hi); (try clear hb); (try clear hb2); (try clear hk); (try clear hi)) | ((with_reducible refine uI (N := 3) rfl ?_); refine bxe 3 #[.int .i64 0, .int .i64 0, .int .i64 0, .int .i64 0, .int .i64 0, .int .i64 0] 37 ?_; intro gb275 hg w85 hbox hb; have BK275 := Aside0.mk (hbox); have GW275 := tKGe HK hg; have GE275 := tKW HW0 HK hg; have NB266_275 := tNl BK266 hg; have NB275_266 := tNg BK266 hg; have NB0_275 := Aside0.mk ((by rw [hg]; exact Nat.ne_of_lt (IsS112.lt (show IsS112 w0 _ g s0_0 t273 t274 from by repeat (first | (with_reducible first | exact HI0.out | apply IsS112.alloc | apply IsS112.drewN | apply IsS112.drew | apply IsS112.set_1 | apply IsS112.set_2 | refine IsS112.far ?_ NB0_266.out _) | exact HI0.out))) : g ≠ gb275)); have NB275_0 := Aside0.mk ((by rw [hg]; exact Nat.ne_of_gt (IsS112.lt (show IsS112 w0 _ g s0_0 t273 t274 from by repeat (first | (with_reducible first | exact HI0.out | apply IsS112.alloc | apply IsS112.drewN | apply IsS112.drew | apply IsS112.set_1 | apply IsS112.set_2 | refine IsS112.far ?_ NB0_266.out _) | exact HI0.out))) : gb275 ≠ g)); replace HI0 := Aside0.mk (IsS112.below q8 hb); replace BK266 := uL BK266 hb; replace HK := uU HK (uX.of_below hb g none); replace HB := tBel1 HB hb; clear hb hbox hg; have hnb86 := NB275_266.out; have hnc86 := NB266_275.out; have hnb87 := NB275_0.out; have hnc87 := NB0_275.out; obtain ⟨hcz88_0, hcz88_1, hcz88_2, hcz88_3, hcz88_4, hcz88_5, hfz88_0, hfz88_1, hfz88_2, hfz88_3, hfz88_4, hfz88_5⟩ := cz6 BK275) | ((with_reducible refine uH (f := 74) rfl ?_); refine vC (some 7) Try.func74 #[.pointer (some ⟨g, 0, none⟩), .int .i64 14] ?_; (with_reducible refine (spec_l1Below.calls g s0_0 t273 t274 14 t276 t277 t278 w0 _ ?side1 ?side2 A3.out).mono ?_); (case side1 => exact q4); (case side2 => exact q0); rintro e w89 ⟨rfl, hi, hb, hk⟩; refine ⟨_, rfl, ?_⟩; replace BK266 := tKBlkF BK266 hk NB266_0; replace BK275 := tKBlkP BK275 #[.int .i64 t267, .int .i64 t268, .int .i64 t269, .int .i64 t270, .int .i64 t271, .int .i64 t272] hk NB275_0; replace HK := uU HK hk; replace HB := Aside0.mk (hb); replace HI0 := Aside0.mk (hi); (try clear hb); (try clear hb2); (try clear hk); (try clear hi)) | ((with_reducible refine uI (N := 40) rfl ?_); refine Kd.R_lit (Kd.int .i64) _ 3 ?hg (N := 40) ?hd (xs := ([(-1), 0, 9, 10] : List Int)) (inner := [.int .i64 (-1), .int .i64 0, .int .i64 9, .int .i64 10]) (ok := fun _ => True) (okp := fun _ => True) ?hr ?hp (fun _ hk => hk) trivial (Below.refl _ _) (Nat.le_refl _) (by simp) ?_; (case hd => rfl); (case hg => rfl); (case hr => first | (go_simp; done) | (go_simp; rfl)); (case hp => exact (Reps.one (show Kd.M (Kd.int .i64) _ _ _ (-1) [.int .i64 (-1)] from rfl) (Reps.one (show Kd.M (Kd.int .i64) _ _ _ 0 [.int .i64 0] from rfl) (Reps.one (show Kd.M (Kd.int .i64) _ _ _ 9 [.int .i64 9] from rfl) (Reps.one (show Kd.M (Kd.int .i64) _ _ _ 10 [.int .i64 10] from rfl) (Reps.none _ _)))))); intro v307 w90 ho91 hb hg_ hnew_; clear hg_ hnew_; (first | rw [← Ny306.out] at ho91 | (simp only [Int.reduceToNat] at ho91; rw [← Ny306.out] at ho91)); have HO308 := Aside0.mk (Kd.vG ho91 (vN (w := w) (g := g) (row := none) q2)); replace HI0 := Aside0.mk (IsS112.below q4 hb); replace BK266 := uL BK266 hb; replace BK275 := uL BK275 hb; replace HK := uU HK (uX.of_below hb g none); replace HB := tBel1 HB hb; clear hb ho91; obtain ⟨Ao92, co92, eo92⟩ := Kd.uW HO308.out; subst eo92) | ((with_reducible refine uH (f := 75) rfl ?_); refine vC (some 41) Try.func75 #[.pointer (some ⟨g, 0, none⟩), .slice Ao92 y306.length co92] ?_; (with_reducible refine (spec_l1PickInt.calls g s0_0 t277 t278 _ _ y306 t309 t310 t311 w0 _ ?side1 ?side2 ?side3 ?side4 ?side5 A82.out).mono ?_); (case side1 => exact q4); (case side2 => exact q0); (case side3 => repeat (first | exact (Kd.uP HO308.out).2.2 | (with_reducible refine Kd.vJ ?_ _) | (with_reducible refine Kd.vK ?_ _) | (with_reducible refine Kd.C_drew ?_))); (case side4 => exact (Kd.uP HO308.out).2.1); (case side5 => exact far_slice (IsS112.own_ne HI0.out HO308.out (by decide))); rintro e w93 ⟨rfl, hi, hb, hk⟩; refine ⟨_, rfl, ?_⟩; replace BK266 := vH BK266 hk NB266_0; replace BK275 := vH BK275 hk NB275_0; replace HO308 := Aside0.mk (Kd.uJ (Kd.vI (IsS112.apart (show IsS112 w0 _ g s0_0 t277 t278 from by repeat (first | (with_reducible first | exact HI0.out | apply IsS112.alloc | apply IsS112.drewN | apply IsS112.drew | apply IsS112.set_1 | apply IsS112.set_2 | refine IsS112.far ?_ NB0_266.out _ | refine IsS112.far ?_ NB0_275.out _) | exact HI0.out)) (rSR HO308.out) (by decide)) hk (fun _ h => h.2)) (fun _ h => h.1)); replace HK := uU HK hk; replace HB := Aside0.mk (hb); replace HI0 := Aside0.mk (hi); (try clear hb); (try clear hb2); (try clear hk); (try clear hi); obtain ⟨hcz94_0, hcz94_1, hcz94_2, hcz94_3, hcz94_4, hcz94_5, hfz94_0, hfz94_1, hfz94_2, hfz94_3, hfz94_4, hfz94_5⟩ := cz6 BK275; have hnb95 := NB266_0.out; have hnc95 := NB0_266.out; obtain ⟨hcz96_0, hcz96_1, hcz96_2, hcz96_3, hcz96_4, hcz96_5, hfz96_0, hfz96_1, hfz96_2, hfz96_3, hfz96_4, hfz96_5⟩ := cz6 BK266))
  refine bodyPost_ret (results_cell_row rfl _ _ gb266 37 #[.int .i64 t267, .int .i64 t268, .int .i64 t269, .int .i64 t270, .int .i64 t309, .int .i64 t272] (0, 0) _ rfl (by (with_reducible repeat (first | refine uF ?_ _ | refine uB ?_ | refine uE ?_ _)); refine uK (cs := #[.int .i64 t267, .int .i64 t268, .int .i64 t269, .int .i64 t270, .int .i64 t309, .int .i64 0]) ?_ 5 _ rfl; (with_reducible repeat (first | refine uF ?_ _ | refine uB ?_ | refine uE ?_ _)); refine uK (cs := #[.int .i64 t267, .int .i64 t268, .int .i64 t269, .int .i64 t270, .int .i64 0, .int .i64 0]) ?_ 4 _ rfl; (with_reducible repeat (first | refine uF ?_ _ | refine uB ?_ | refine uE ?_ _)); refine uK (cs := #[.int .i64 t267, .int .i64 t268, .int .i64 t269, .int .i64 0, .int .i64 0, .int .i64 0]) ?_ 3 _ rfl; (with_reducible repeat (first | refine uF ?_ _ | refine uB ?_ | refine uE ?_ _)); refine uK (cs := #[.int .i64 t267, .int .i64 t268, .int .i64 0, .int .i64 0, .int .i64 0, .int .i64 0]) ?_ 2 _ rfl; (with_reducible repeat (first | refine uF ?_ _ | refine uB ?_ | refine uE ?_ _)); refine uK (cs := #[.int .i64 t267, .int .i64 0, .int .i64 0, .int .i64 0, .int .i64 0, .int .i64 0]) ?_ 1 _ rfl; (with_reducible repeat (first | refine uF ?_ _ | refine uB ?_ | refine uE ?_ _)); refine uK (cs := #[.int .i64 0, .int .i64 0, .int .i64 0, .int .i64 0, .int .i64 0, .int .i64 0]) ?_ 0 _ rfl; (with_reducible repeat (first | refine uF ?_ _ | refine uB ?_ | refine uE ?_ _)); refine vF ?_ NB266_275.out _; (with_reducible repeat (first | refine uF ?_ _ | refine uB ?_ | refine uE ?_ _)); exact BK266.out) Try.underlying37 rfl (by kernel_rfl)) rfl ?_
  exact ⟨q5, q4, q0, q2⟩

/-! ### spec_DrawApplyOp: function 18 -/
def spec_DrawApplyOp.f (k : Nat) (l0 : List Int) : Option (List Int × (List (S49)) × Int × Int × Int × Int × Int × Int) := (spec_l1New.f k l0).bind fun bt314 => ((spec_l4Any.f k bt314.1 bt314.2.1 bt314.2.2).bind fun bt318 => ((spec_l3Any.f bt314.1 bt318.2.2.1 bt318.2.2.2).bind fun bt326 => (some (bt318.1, bt318.2.1, bt326.1, bt326.2.1, bt326.2.2.1, bt326.2.2.2.1, bt326.2.2.2.2.1, bt326.2.2.2.2.2.1))))
theorem spec_DrawApplyOp.mono : ∀ a0 k, uN (spec_DrawApplyOp.f k a0) (spec_DrawApplyOp.f (k + 1) a0) := by
  intro a0 k
  unfold spec_DrawApplyOp.f
  repeat' first
      | (with_reducible exact spec_l1New.mono _ _)
      | (with_reducible exact spec_l4Any.mono _ _ _ _)
      | (with_reducible exact uN.refl _)
      | (with_reducible exact uN.none _)
      | (with_reducible refine uN.ite ?_ ?_)
      | (with_reducible refine uN.bind ?_ (fun _ => ?_))
      | exact spec_l1New.mono _ _
      | exact spec_l4Any.mono _ _ _ _
      | exact uN.none _
      | refine uN.ite ?_ ?_
      | refine uN.bind ?_ (fun _ => ?_)
set_option maxHeartbeats 8000000 in
set_option maxRecDepth 100000 in
theorem spec_DrawApplyOp.calls (k : Nat) (A0 : Option Addr) (c0 : Nat) (l0 : List Int) (r1 : List Int) (r2 : List (S49)) (r3 : Int) (r4 : Int) (r5 : Int) (r6 : Int) (r7 : Int) (r8 : Int) (w : World) (hr0 : Kd.C (Kd.int .u8) w A0 l0.length l0) (hc0 : l0.length ≤ c0) (h : spec_DrawApplyOp.f k l0 = some (r1, r2, r3, r4, r5, r6, r7, r8)) :
    Calls Try.prog 18 #[.slice A0 l0.length c0] w fun e w' => ∃ v0_ v1_ : Value, e = .returned (.tuple #[.agg #[v0_, v1_], .agg #[.int .i64 r3, .int .i64 r4, .int .i64 r5, .int .i64 r6, .int .i64 r7, .int .i64 r8]]) ∧ Kd.Q (Kd.int .i64) 3 w' w.heap.size (fun _ => True) v0_ r1 ∧ Kd.R k49 49 w' w.heap.size (fun _ => True) v1_ r2 ∧ Below w.heap.size w w' := by
  have hu31 := Try.underlying31
  have hu37 := Try.underlying37
  have HR0 := Aside0.mk hr0
  have HC0 := Aside0.mk hc0
  clear hr0 hc0
  have HB := Aside0.mk (Below.refl w.heap.size w)
  have H : ((spec_l1New.f k l0).bind fun bt314 => ((spec_l4Any.f k bt314.1 bt314.2.1 bt314.2.2).bind fun bt318 => ((spec_l3Any.f bt314.1 bt318.2.2.1 bt318.2.2.2).bind fun bt326 => (some (bt318.1, bt318.2.1, bt326.1, bt326.2.1, bt326.2.2.1, bt326.2.2.2.1, bt326.2.2.2.2.1, bt326.2.2.2.2.2.1))))) = some (r1, r2, r3, r4, r5, r6, r7, r8) := h
  clear h
  replace H := Option.bind_eq_some_iff.mp H
  obtain ⟨⟨t314, t315, t316⟩, A20, H⟩ := H
  try dsimp only at H
  have A2 := Aside0.mk A20
  clear A20
  replace H := Option.bind_eq_some_iff.mp H
  obtain ⟨⟨t318, t321, t324, t325⟩, A30, H⟩ := H
  try dsimp only at H
  have A3 := Aside0.mk A30
  clear A30
  replace H := Option.bind_eq_some_iff.mp H
  obtain ⟨⟨t326, t327, t328, t329, t330, t331, t332, t333⟩, A40, H⟩ := H
  try dsimp only at H
  have A4 := Aside0.mk A40
  clear A40
  simp only [Option.some.injEq, Prod.mk.injEq] at H
  obtain ⟨rfl, rfl, rfl, rfl, rfl, rfl, rfl, rfl⟩ := H
  go_enter Try.func18, Try.ntmps18
  go_wp2_with (first | ((with_reducible refine uI (N := 2) rfl ?_); refine bxe 2 #[.slice none 0 0, .slice none 0 0] 31 ?_; intro gb312 hg w5 hbox hb; have BK312 := Aside0.mk (hbox); have GW312 := tGe HB hg; have GE312 := tGe HB hg; replace HB := tBel HB hb; clear hb hbox hg) | ((with_reducible refine uI (N := 3) rfl ?_); refine bxe 3 #[.int .i64 0, .int .i64 0, .int .i64 0, .int .i64 0, .int .i64 0, .int .i64 0] 37 ?_; intro gb313 hg w6 hbox hb; have BK313 := Aside0.mk (hbox); have GW313 := tGe HB hg; have GE313 := tGe HB hg; have NB312_313 := tNl BK312 hg; have NB313_312 := tNg BK312 hg; replace BK312 := uL BK312 hb; replace HB := tBel HB hb; clear hb hbox hg) | ((with_reducible refine uH (f := 58) rfl ?_); refine vC (some 6) Try.func58 #[.slice A0 l0.length c0] ?_; (with_reducible refine (spec_l1New.calls k _ _ l0 t314 t315 t316 w _ ?side1 ?side2 ?side3 A2.out).mono ?_); (case side1 => exact q1); (case side2 => exact HR0.out); (case side3 => exact HC0.out); rintro e w7 ⟨g317, rfl, hi, hb, hb2⟩; refine ⟨_, rfl, ?_⟩; have HI317 := Aside0.mk (hi); have NB317_312 := Aside0.mk (IsS112.ne_blk hi (blk_below (g := gb312) (o := .cells #[.slice none 0 0, .slice none 0 0] 31 (0, 0)) (rSB BK312.out) hb2) (by decide)); have NB312_317 := Aside0.mk (Ne.symm (IsS112.ne_blk hi (blk_below (g := gb312) (o := .cells #[.slice none 0 0, .slice none 0 0] 31 (0, 0)) (rSB BK312.out) hb2) (by decide))); have NB317_313 := Aside0.mk (IsS112.ne_blk hi (blk_below (g := gb313) (o := .cells #[.int .i64 0, .int .i64 0, .int .i64 0, .int .i64 0, .int .i64 0, .int .i64 0] 37 (0, 0)) (rSB BK313.out) hb2) (by decide)); have NB313_317 := Aside0.mk (Ne.symm (IsS112.ne_blk hi (blk_below (g := gb313) (o := .cells #[.int .i64 0, .int .i64 0, .int .i64 0, .int .i64 0, .int .i64 0, .int .i64 0] 37 (0, 0)) (rSB BK313.out) hb2) (by decide))); replace BK312 := Aside0.mk (blk_below (g := gb312) (o := .cells #[.slice none 0 0, .slice none 0 0] 31 (0, 0)) (rSB BK312.out) hb2); replace BK313 := Aside0.mk (blk_below (g := gb313) (o := .cells #[.int .i64 0, .int .i64 0, .int .i64 0, .int .i64 0, .int .i64 0, .int .i64 0] 37 (0, 0)) (rSB BK313.out) hb2); replace HB := Aside0.mk (hb); (try clear hb); (try clear hb2); (try clear hk); (try clear hi)) | ((with_reducible refine uH (f := 59) rfl ?_); refine vC (some 8) Try.func59 #[.pointer (some ⟨g317, 0, none⟩)] ?_; (with_reducible refine (spec_l4Any.calls k g317 t314 t315 t316 t318 t321 t324 t325 w _ ?side1 ?side2 A3.out).mono ?_); (case side1 => repeat (first | (with_reducible first | exact HI317.out | apply IsS112.alloc | apply IsS112.drewN | apply IsS112.drew | apply IsS112.set_1 | apply IsS112.set_2 | refine IsS112.far ?_ NB317_312.out _ | refine IsS112.far ?_ NB317_313.out _) | exact HI317.out)); (case side2 => exact q46); rintro e w8 ⟨v319, v322, rfl, ho0, ho1, hi, hb, hk⟩; refine ⟨_, rfl, ?_⟩; have HO320 := Aside0.mk (Kd.Q_lower ho0 (vL q46)); have HO323 := Aside0.mk (Kd.vG ho1 (vL q46)); replace BK312 := vH BK312 hk NB312_317; replace BK313 := vH BK313 hk NB313_317; replace HB := Aside0.mk (hb); replace HI317 := Aside0.mk (hi); (try clear hb); (try clear hb2); (try clear hk); (try clear hi); (try clear ho0); (try clear ho1)) | ((with_reducible refine uH (f := 60) rfl ?_); refine vC (some 10) Try.func60 #[.pointer (some ⟨g317, 0, none⟩)] ?_; (with_reducible refine (spec_l3Any.calls g317 t314 t324 t325 t326 t327 t328 t329 t330 t331 t332 t333 w _ ?side1 ?side2 A4.out).mono ?_); (case side1 => repeat (first | (with_reducible first | exact HI317.out | apply IsS112.alloc | apply IsS112.drewN | apply IsS112.drew | apply IsS112.set_1 | apply IsS112.set_2 | refine IsS112.far ?_ NB317_312.out _ | refine IsS112.far ?_ NB317_313.out _) | exact HI317.out)); (case side2 => exact q46); rintro e w9 ⟨rfl, hi, hb, hk⟩; refine ⟨_, rfl, ?_⟩; replace BK312 := vH BK312 hk NB312_317; replace BK313 := vH BK313 hk NB313_317; replace HO320 := Aside0.mk (Kd.Q_mono (Kd.Q_keep (IsS112.apartQ (show IsS112 w _ g317 t314 t324 t325 from by repeat (first | (with_reducible first | exact HI317.out | apply IsS112.alloc | apply IsS112.drewN | apply IsS112.drew | apply IsS112.set_1 | apply IsS112.set_2 | refine IsS112.far ?_ NB317_312.out _ | refine IsS112.far ?_ NB317_313.out _) | exact HI317.out)) (rSQ HO320.out) (by decide)) hk (fun _ h => h.2)) (fun _ h => h.1)); replace HO323 := Aside0.mk (Kd.uJ (Kd.vI (IsS112.apart (show IsS112 w _ g317 t314 t324 t325 from by repeat (first | (with_reducible first | exact HI317.out | apply IsS112.alloc | apply IsS112.drewN | apply IsS112.drew | apply IsS112.set_1 | apply IsS112.set_2 | refine IsS112.far ?_ NB317_312.out _ | refine IsS112.far ?_ NB317_313.out _) | exact HI317.out)) (rSR HO323.out) (by decide)) hk (fun _ h => h.2)) (fun _ h => h.1)); replace HB := Aside0.mk (hb); replace HI317 := Aside0.mk (hi); (try clear hb); (try clear hb2); (try clear hk); (try clear hi); obtain ⟨Ao10, co10, eo10, _⟩ := Kd.Q_slice HO320.out; subst eo10; have hnb11 := NB312_313.out; have hnc11 := NB313_312.out; have hnb12 := NB312_317.out; have hnc12 := NB317_312.out; obtain ⟨hcz13_0, hcz13_1, hfz13_0, hfz13_1⟩ := cz2 BK312; obtain ⟨Ao14, co14, eo14⟩ := Kd.uW HO323.out; subst eo14; have hnb15 := NB313_317.out; have hnc15 := NB317_313.out; obtain ⟨hcz16_0, hcz16_1, hcz16_2, hcz16_3, hcz16_4, hcz16_5, hfz16_0, hfz16_1, hfz16_2, hfz16_3, hfz16_4, hfz16_5⟩ := cz6 BK313))
  refine bodyPost_ret (results_cc rfl _ _ gb312 gb313 31 37 #[.slice Ao10 t318.length co10, .slice Ao14 t321.length co14] #[.int .i64 t326, .int .i64 t327, .int .i64 t328, .int .i64 t329, .int .i64 t330, .int .i64 t331] (0, 0) (0, 0) _ _ rfl (by (with_reducible repeat (first | refine uF ?_ _ | refine uB ?_ | refine uE ?_ _)); refine vF ?_ NB312_313.out _; (with_reducible repeat (first | refine uF ?_ _ | refine uB ?_ | refine uE ?_ _)); refine vF ?_ NB312_313.out _; (with_reducible repeat (first | refine uF ?_ _ | refine uB ?_ | refine uE ?_ _)); refine vF ?_ NB312_313.out _; (with_reducible repeat (first | refine uF ?_ _ | refine uB ?_ | refine uE ?_ _)); refine vF ?_ NB312_313.out _; (with_reducible repeat (first | refine uF ?_ _ | refine uB ?_ | refine uE ?_ _)); refine vF ?_ NB312_313.out _; (with_reducible repeat (first | refine uF ?_ _ | refine uB ?_ | refine uE ?_ _)); refine vF ?_ NB312_313.out _; (with_reducible repeat (first | refine uF ?_ _ | refine uB ?_ | refine uE ?_ _)); refine uK (cs := #[.slice Ao10 t318.length co10, .slice none 0 0]) ?_ 1 _ rfl; (with_reducible repeat (first | refine uF ?_ _ | refine uB ?_ | refine uE ?_ _)); refine uK (cs := #[.slice none 0 0, .slice none 0 0]) ?_ 0 _ rfl; (with_reducible repeat (first | refine uF ?_ _ | refine uB ?_ | refine uE ?_ _)); exact BK312.out) Try.underlying31 rfl (by kernel_rfl) rfl (by (with_reducible repeat (first | refine uF ?_ _ | refine uB ?_ | refine uE ?_ _)); refine uK (cs := #[.int .i64 t326, .int .i64 t327, .int .i64 t328, .int .i64 t329, .int .i64 t330, .int .i64 0]) ?_ 5 _ rfl; (with_reducible repeat (first | refine uF ?_ _ | refine uB ?_ | refine uE ?_ _)); refine uK (cs := #[.int .i64 t326, .int .i64 t327, .int .i64 t328, .int .i64 t329, .int .i64 0, .int .i64 0]) ?_ 4 _ rfl; (with_reducible repeat (first | refine uF ?_ _ | refine uB ?_ | refine uE ?_ _)); refine uK (cs := #[.int .i64 t326, .int .i64 t327, .int .i64 t328, .int .i64 0, .int .i64 0, .int .i64 0]) ?_ 3 _ rfl; (with_reducible repeat (first | refine uF ?_ _ | refine uB ?_ | refine uE ?_ _)); refine uK (cs := #[.int .i64 t326, .int .i64 t327, .int .i64 0, .int .i64 0, .int .i64 0, .int .i64 0]) ?_ 2 _ rfl; (with_reducible repeat (first | refine uF ?_ _ | refine uB ?_ | refine uE ?_ _)); refine uK (cs := #[.int .i64 t326, .int .i64 0, .int .i64 0, .int .i64 0, .int .i64 0, .int .i64 0]) ?_ 1 _ rfl; (with_reducible repeat (first | refine uF ?_ _ | refine uB ?_ | refine uE ?_ _)); refine uK (cs := #[.int .i64 0, .int .i64 0, .int .i64 0, .int .i64 0, .int .i64 0, .int .i64 0]) ?_ 0 _ rfl; (with_reducible repeat (first | refine uF ?_ _ | refine uB ?_ | refine uE ?_ _)); refine vF ?_ NB313_312.out _; (with_reducible repeat (first | refine uF ?_ _ | refine uB ?_ | refine uE ?_ _)); refine vF ?_ NB313_312.out _; (with_reducible repeat (first | refine uF ?_ _ | refine uB ?_ | refine uE ?_ _)); exact BK313.out) Try.underlying37 rfl (by kernel_rfl)) rfl ?_
  exact ⟨_, _, q5, by (with_reducible repeat (first | apply Kd.Q_alloc | apply Kd.Q_drewN | apply Kd.Q_drew)); exact Kd.Q_mono (Kd.Q_far (p := ⟨gb313, 5, none⟩) (Kd.Q_far (p := ⟨gb313, 4, none⟩) (Kd.Q_far (p := ⟨gb313, 3, none⟩) (Kd.Q_far (p := ⟨gb313, 2, none⟩) (Kd.Q_far (p := ⟨gb313, 1, none⟩) (Kd.Q_far (p := ⟨gb313, 0, none⟩) (Kd.Q_far (p := ⟨gb312, 1, none⟩) (Kd.Q_far (p := ⟨gb312, 0, none⟩) (Kd.Q_types (Kd.Q_types HO320.out BK312.out (by decide)) BK313.out (by decide)) (fun _ hk => hk.1.2) (.slice Ao10 t318.length co10)) (fun _ hk => hk.1.2) (.slice Ao14 t321.length co14)) (fun _ hk => hk.2) (.int .i64 t326)) (fun _ hk => hk.2) (.int .i64 t327)) (fun _ hk => hk.2) (.int .i64 t328)) (fun _ hk => hk.2) (.int .i64 t329)) (fun _ hk => hk.2) (.int .i64 t330)) (fun _ hk => hk.2) (.int .i64 t331)) (fun _ hk => trivial), by (with_reducible repeat (first | apply Kd.vA | apply Kd.vB | apply Kd.uR)); exact Kd.uJ (Kd.uM (p := ⟨gb313, 5, none⟩) (Kd.uM (p := ⟨gb313, 4, none⟩) (Kd.uM (p := ⟨gb313, 3, none⟩) (Kd.uM (p := ⟨gb313, 2, none⟩) (Kd.uM (p := ⟨gb313, 1, none⟩) (Kd.uM (p := ⟨gb313, 0, none⟩) (Kd.uM (p := ⟨gb312, 1, none⟩) (Kd.uM (p := ⟨gb312, 0, none⟩) (Kd.uY (Kd.uY HO323.out BK312.out (by decide)) BK313.out (by decide)) (fun _ hk => hk.1.2) (.slice Ao10 t318.length co10)) (fun _ hk => hk.1.2) (.slice Ao14 t321.length co14)) (fun _ hk => hk.2) (.int .i64 t326)) (fun _ hk => hk.2) (.int .i64 t327)) (fun _ hk => hk.2) (.int .i64 t328)) (fun _ hk => hk.2) (.int .i64 t329)) (fun _ hk => hk.2) (.int .i64 t330)) (fun _ hk => hk.2) (.int .i64 t331)) (fun _ hk => trivial), q46⟩

/-! ### slices_Equal_int_int: function 61 -/
def slices_Equal_int_int.l0 : Nat → List Int → List Int → Int → Int → Option (Bool)
  | 0, _, _, _, _ => none
  | k + 1, x0, x1, x12, x13 => if x13 < x12 then (if 0 ≤ x13 then (if x13 < (x0.length : Int) then (if x13 < (x1.length : Int) then (if (rd x0 x13) = (rd x1 x13) then (slices_Equal_int_int.l0 k x0 x1 x12 (wrap64 (x13 + 1))) else (some false)) else (none)) else (none)) else (none)) else (some true)
def slices_Equal_int_int.f (k : Nat) (l0 : List Int) (l1 : List Int) : Option (Bool) := if (l0.length : Int) = (l1.length : Int) then (slices_Equal_int_int.l0 k l0 l1 (l0.length : Int) 0) else (some false)
theorem slices_Equal_int_int.mono_l : ∀ k, (∀ y0 y1 y2 y3, uN (slices_Equal_int_int.l0 k y0 y1 y2 y3) (slices_Equal_int_int.l0 (k + 1) y0 y1 y2 y3))
  | 0 => fun _ _ _ _ r h => by simp [slices_Equal_int_int.l0] at h
  | k + 1 => by
    have ih0 := slices_Equal_int_int.mono_l k
    intro y0 y1 y2 y3
    unfold slices_Equal_int_int.l0
    repeat' first
    | (with_reducible exact ih0 _ _ _ _)
    | (with_reducible exact uN.refl _)
    | (with_reducible exact uN.none _)
    | (with_reducible refine uN.ite ?_ ?_)
    | (with_reducible refine uN.bind ?_ (fun _ => ?_))
    | exact ih0 _ _ _ _
    | exact uN.none _
    | refine uN.ite ?_ ?_
    | refine uN.bind ?_ (fun _ => ?_)
theorem slices_Equal_int_int.mono : ∀ a0 a1 k, uN (slices_Equal_int_int.f k a0 a1) (slices_Equal_int_int.f (k + 1) a0 a1) := by
  intro a0 a1 k
  have ih0 := slices_Equal_int_int.mono_l k
  unfold slices_Equal_int_int.f
  repeat' first
      | (with_reducible exact ih0 _ _ _ _)
      | (with_reducible exact uN.refl _)
      | (with_reducible exact uN.none _)
      | (with_reducible refine uN.ite ?_ ?_)
      | (with_reducible refine uN.bind ?_ (fun _ => ?_))
      | exact ih0 _ _ _ _
      | exact uN.none _
      | refine uN.ite ?_ ?_
      | refine uN.bind ?_ (fun _ => ?_)
set_option maxHeartbeats 8000000 in
set_option maxRecDepth 100000 in
theorem slices_Equal_int_int.calls (k : Nat) (A0 : Option Addr) (c0 : Nat) (l0 : List Int) (A1 : Option Addr) (c1 : Nat) (l1 : List Int) (r : Bool) (w : World) (hr0 : Kd.C (Kd.int .i64) w A0 l0.length l0) (hc0 : l0.length ≤ c0) (hr1 : Kd.C (Kd.int .i64) w A1 l1.length l1) (hc1 : l1.length ≤ c1) (h : slices_Equal_int_int.f k l0 l1 = some r) :
    Calls Try.prog 61 #[.slice A0 l0.length c0, .slice A1 l1.length c1] w fun e w' => e = .returned (.bool r) ∧ Drawn0 w w' := by
  have HR0 := Aside0.mk hr0
  have HC0 := Aside0.mk hc0
  clear hr0 hc0
  have HR1 := Aside0.mk hr1
  have HC1 := Aside0.mk hc1
  clear hr1 hc1
  have H : (if (l0.length : Int) = (l1.length : Int) then (slices_Equal_int_int.l0 k l0 l1 (l0.length : Int) 0) else (some false)) = some r := h
  clear h
  by_cases c3 : (l0.length : Int) = (l1.length : Int)
  rotate_left
  · rw [if_neg c3] at H
    have c3b0 : ((l0.length : Int) == (l1.length : Int)) = false := beq_eq_false_iff_ne.mpr c3
    have c3b1 : ((l0.length : Int) != (l1.length : Int)) = true := bne_iff_ne.mpr c3
    have c3b2 : (l0.length == l1.length) = false := by first | simpa using c3 | (simp at c3 ⊢; omega)
    obtain rfl := Option.some.inj H
    go_enter Try.func61, Try.ntmps61
    go_wp2
    repeat (go_quiet (fail); try go_wp2)
    go_ret
    exact ⟨q43, q62⟩
  rw [if_pos c3] at H
  have c3b0 : ((l0.length : Int) == (l1.length : Int)) = true := beq_iff_eq.mpr c3
  have c3b1 : ((l0.length : Int) != (l1.length : Int)) = false := bne_eq_false_iff_eq.mpr c3
  have c3b2 : (l0.length == l1.length) = true := by first | simpa using c3 | (simp at c3 ⊢; omega)
  clear c3
  have H' := Aside0.mk H
  clear H
  go_enter Try.func61, Try.ntmps61
  go_wp2
  repeat (go_quiet (fail); try go_wp2)
  go_loopg [13] k (fun kq v13 w' => ∃ (x13_1 : Int), v13 = .int .i64 x13_1 ∧ Aside0 (slices_Equal_int_int.l0 kq l0 l1 (l0.length : Int) x13_1 = some r) ∧ Aside0 (kq ≤ k) ∧ Drawn0 w w')
  case atStart => exact ⟨(0), q43, H', ⟨Nat.le_refl _⟩, q62⟩
  case round =>
    clear H'
    try clear c1
    try clear p2
    try clear c3
    try clear c3b0
    try clear c3b1
    try clear c3b2
    obtain ⟨x13_1, rfl, HA, HK1, ⟨m1, rfl⟩⟩ := hrel
    cases gk with
    | zero => exact absurd HA.out (by simp [slices_Equal_int_int.l0])
    | succ k1 =>
      have H := HA.out
      clear HA
      simp only [slices_Equal_int_int.l0] at H
      by_cases c4 : x13_1 < (l0.length : Int)
      rotate_left
      · rw [if_neg c4] at H
        have c4b0 : decide (x13_1 < (l0.length : Int)) = false := decide_eq_false c4
        clear c4
        obtain rfl := Option.some.inj H
        go_wp2
        repeat (go_quiet (fail); try go_wp2)
        go_ret
        exact ⟨q43, q62⟩
      rw [if_pos c4] at H
      have c4b0 : decide (x13_1 < (l0.length : Int)) = true := decide_eq_true c4
      clear c4
      by_cases c5 : 0 ≤ x13_1
      rotate_left
      · rw [if_neg c5] at H
        exact absurd H (by simp)
      rw [if_pos c5] at H
      have c5b0 : decide (0 ≤ x13_1) = true := decide_eq_true c5
      clear c5
      by_cases c6 : x13_1 < (l0.length : Int)
      rotate_left
      · rw [if_neg c6] at H
        exact absurd H (by simp)
      rw [if_pos c6] at H
      have c6b0 : decide (x13_1 < (l0.length : Int)) = true := decide_eq_true c6
      clear c6
      by_cases c7 : x13_1 < (l1.length : Int)
      rotate_left
      · rw [if_neg c7] at H
        exact absurd H (by simp)
      rw [if_pos c7] at H
      have c7b0 : decide (x13_1 < (l1.length : Int)) = true := decide_eq_true c7
      clear c7
      by_cases c8 : (rd l0 x13_1) = (rd l1 x13_1)
      rotate_left
      · rw [if_neg c8] at H
        have c8b0 : ((rd l0 x13_1) == (rd l1 x13_1)) = false := beq_eq_false_iff_ne.mpr c8
        have c8b1 : ((rd l0 x13_1) != (rd l1 x13_1)) = true := bne_iff_ne.mpr c8
        obtain rfl := Option.some.inj H
        have p334 : 0 ≤ (x13_1 : Int) := of_decide_eq_true q25
        have q334 : x13_1 < (l0.length : Int) := of_decide_eq_true q25
        obtain ⟨ad334, e334, hx334_0⟩ := Kd.at_int HR0.out x13_1 p334 q334
        cases e334
        replace p334 := eq_true p334
        replace q334 := eq_true q334
        have p335 : 0 ≤ (x13_1 : Int) := of_decide_eq_true q25
        have q335 : x13_1 < (l1.length : Int) := of_decide_eq_true q25
        obtain ⟨ad335, e335, hx335_0⟩ := Kd.at_int HR1.out x13_1 p335 q335
        cases e335
        replace p335 := eq_true p335
        replace q335 := eq_true q335
        go_wp2
        repeat (go_quiet (fail); try go_wp2)
        go_ret
        exact ⟨q43, q62⟩
      rw [if_pos c8] at H
      have c8b0 : ((rd l0 x13_1) == (rd l1 x13_1)) = true := beq_iff_eq.mpr c8
      have c8b1 : ((rd l0 x13_1) != (rd l1 x13_1)) = false := bne_eq_false_iff_eq.mpr c8
      clear c8
      have H' := Aside0.mk H
      clear H
      have p334 : 0 ≤ (x13_1 : Int) := of_decide_eq_true q25
      have q334 : x13_1 < (l0.length : Int) := of_decide_eq_true q25
      obtain ⟨ad334, e334, hx334_0⟩ := Kd.at_int HR0.out x13_1 p334 q334
      cases e334
      replace p334 := eq_true p334
      replace q334 := eq_true q334
      have p335 : 0 ≤ (x13_1 : Int) := of_decide_eq_true q25
      have q335 : x13_1 < (l1.length : Int) := of_decide_eq_true q25
      obtain ⟨ad335, e335, hx335_0⟩ := Kd.at_int HR1.out x13_1 p335 q335
      cases e335
      replace p335 := eq_true p335
      replace q335 := eq_true q335
      go_wp2
      repeat (go_quiet (fail); try go_wp2)
      go_roundg k1
      case measure => have := HK1.out; omega
      case rel => exact ⟨(wrap64 (x13_1 + 1)), q43, H', ⟨by have := HK1.out; omega⟩, q62⟩

/-! ### slices_Equal_impl_Session_impl_Session: function 62 -/
def slices_Equal_impl_Session_impl_Session.l0 : Nat → List (S49) → List (S49) → Int → Int → Option (Bool)
  | 0, _, _, _, _ => none
  | k + 1, x0, x1, x12, x13 => if x13 < x12 then (if 0 ≤ x13 then (if x13 < (x0.length : Int) then (if x13 < (x1.length : Int) then (if (!(((rd_T49 x0 x13).f0) == ((rd_T49 x1 x13).f0)) || (!(((rd_T49 x0 x13).f1) == ((rd_T49 x1 x13).f1)) || ((!(((rd_T49 x0 x13).f2.f0) == ((rd_T49 x1 x13).f2.f0)) || (!(((rd_T49 x0 x13).f2.f1) == ((rd_T49 x1 x13).f2.f1))))))) = true then (some false) else (slices_Equal_impl_Session_impl_Session.l0 k x0 x1 x12 (wrap64 (x13 + 1)))) else (none)) else (none)) else (none)) else (some true)
def slices_Equal_impl_Session_impl_Session.f (k : Nat) (l0 : List (S49)) (l1 : List (S49)) : Option (Bool) := if (l0.length : Int) = (l1.length : Int) then (slices_Equal_impl_Session_impl_Session.l0 k l0 l1 (l0.length : Int) 0) else (some false)
theorem slices_Equal_impl_Session_impl_Session.mono_l : ∀ k, (∀ y0 y1 y2 y3, uN (slices_Equal_impl_Session_impl_Session.l0 k y0 y1 y2 y3) (slices_Equal_impl_Session_impl_Session.l0 (k + 1) y0 y1 y2 y3))
  | 0 => fun _ _ _ _ r h => by simp [slices_Equal_impl_Session_impl_Session.l0] at h
  | k + 1 => by
    have ih0 := slices_Equal_impl_Session_impl_Session.mono_l k
    intro y0 y1 y2 y3
    unfold slices_Equal_impl_Session_impl_Session.l0
    repeat' first
    | (with_reducible exact ih0 _ _ _ _)
    | (with_reducible exact uN.refl _)
    | (with_reducible exact uN.none _)
    | (with_reducible refine uN.ite ?_ ?_)
    | (with_reducible refine uN.bind ?_ (fun _ => ?_))
    | exact ih0 _ _ _ _
    | exact uN.none _
    | refine uN.ite ?_ ?_
    | refine uN.bind ?_ (fun _ => ?_)
theorem slices_Equal_impl_Session_impl_Session.mono : ∀ a0 a1 k, uN (slices_Equal_impl_Session_impl_Session.f k a0 a1) (slices_Equal_impl_Session_impl_Session.f (k + 1) a0 a1) := by
  intro a0 a1 k
  have ih0 := slices_Equal_impl_Session_impl_Session.mono_l k
  unfold slices_Equal_impl_Session_impl_Session.f
  repeat' first
      | (with_reducible exact ih0 _ _ _ _)
      | (with_reducible exact uN.refl _)
      | (with_reducible exact uN.none _)
      | (with_reducible refine uN.ite ?_ ?_)
      | (with_reducible refine uN.bind ?_ (fun _ => ?_))
      | exact ih0 _ _ _ _
      | exact uN.none _
      | refine uN.ite ?_ ?_
      | refine uN.bind ?_ (fun _ => ?_)
set_option maxHeartbeats 8000000 in
set_option maxRecDepth 100000 in
theorem slices_Equal_impl_Session_impl_Session.calls (k : Nat) (A0 : Option Addr) (c0 : Nat) (l0 : List (S49)) (A1 : Option Addr) (c1 : Nat) (l1 : List (S49)) (r : Bool) (w : World) (hr0 : Kd.C k49 w A0 l0.length l0) (hc0 : l0.length ≤ c0) (hr1 : Kd.C k49 w A1 l1.length l1) (hc1 : l1.length ≤ c1) (h : slices_Equal_impl_Session_impl_Session.f k l0 l1 = some r) :
    Calls Try.prog 62 #[.slice A0 l0.length c0, .slice A1 l1.length c1] w fun e w' => e = .returned (.bool r) ∧ Drawn0 w w' := by
  have hu49 := Try.underlying49
  have HR0 := Aside0.mk hr0
  have HC0 := Aside0.mk hc0
  clear hr0 hc0
  have HR1 := Aside0.mk hr1
  have HC1 := Aside0.mk hc1
  clear hr1 hc1
  have H : (if (l0.length : Int) = (l1.length : Int) then (slices_Equal_impl_Session_impl_Session.l0 k l0 l1 (l0.length : Int) 0) else (some false)) = some r := h
  clear h
  by_cases c3 : (l0.length : Int) = (l1.length : Int)
  rotate_left
  · rw [if_neg c3] at H
    have c3b0 : ((l0.length : Int) == (l1.length : Int)) = false := beq_eq_false_iff_ne.mpr c3
    have c3b1 : ((l0.length : Int) != (l1.length : Int)) = true := bne_iff_ne.mpr c3
    have c3b2 : (l0.length == l1.length) = false := by first | simpa using c3 | (simp at c3 ⊢; omega)
    obtain rfl := Option.some.inj H
    go_enter Try.func62, Try.ntmps62
    go_wp2
    repeat (go_quiet (fail); try go_wp2)
    go_ret
    exact ⟨q43, q62⟩
  rw [if_pos c3] at H
  have c3b0 : ((l0.length : Int) == (l1.length : Int)) = true := beq_iff_eq.mpr c3
  have c3b1 : ((l0.length : Int) != (l1.length : Int)) = false := bne_eq_false_iff_eq.mpr c3
  have c3b2 : (l0.length == l1.length) = true := by first | simpa using c3 | (simp at c3 ⊢; omega)
  clear c3
  have H' := Aside0.mk H
  clear H
  go_enter Try.func62, Try.ntmps62
  go_wp2
  repeat (go_quiet (fail); try go_wp2)
  go_loopg [13] k (fun kq v13 w' => ∃ (x13_1 : Int), v13 = .int .i64 x13_1 ∧ Aside0 (slices_Equal_impl_Session_impl_Session.l0 kq l0 l1 (l0.length : Int) x13_1 = some r) ∧ Aside0 (kq ≤ k) ∧ Drawn0 w w')
  case atStart => exact ⟨(0), q43, H', ⟨Nat.le_refl _⟩, q62⟩
  case round =>
    clear H'
    try clear c1
    try clear p2
    try clear c3
    try clear c3b0
    try clear c3b1
    try clear c3b2
    obtain ⟨x13_1, rfl, HA, HK1, ⟨m1, rfl⟩⟩ := hrel
    cases gk with
    | zero => exact absurd HA.out (by simp [slices_Equal_impl_Session_impl_Session.l0])
    | succ k1 =>
      have H := HA.out
      clear HA
      simp only [slices_Equal_impl_Session_impl_Session.l0] at H
      by_cases c4 : x13_1 < (l0.length : Int)
      rotate_left
      · rw [if_neg c4] at H
        have c4b0 : decide (x13_1 < (l0.length : Int)) = false := decide_eq_false c4
        clear c4
        obtain rfl := Option.some.inj H
        go_wp2
        repeat (go_quiet (fail); try go_wp2)
        go_ret
        exact ⟨q43, q62⟩
      rw [if_pos c4] at H
      have c4b0 : decide (x13_1 < (l0.length : Int)) = true := decide_eq_true c4
      clear c4
      by_cases c5 : 0 ≤ x13_1
      rotate_left
      · rw [if_neg c5] at H
        exact absurd H (by simp)
      rw [if_pos c5] at H
      have c5b0 : decide (0 ≤ x13_1) = true := decide_eq_true c5
      clear c5
      by_cases c6 : x13_1 < (l0.length : Int)
      rotate_left
      · rw [if_neg c6] at H
        exact absurd H (by simp)
      rw [if_pos c6] at H
      have c6b0 : decide (x13_1 < (l0.length : Int)) = true := decide_eq_true c6
      clear c6
      by_cases c7 : x13_1 < (l1.length : Int)
      rotate_left
      · rw [if_neg c7] at H
        exact absurd H (by simp)
      rw [if_pos c7] at H
      have c7b0 : decide (x13_1 < (l1.length : Int)) = true := decide_eq_true c7
      clear c7
      by_cases c8 : (!(((rd_T49 l0 x13_1).f0) == ((rd_T49 l1 x13_1).f0)) || (!(((rd_T49 l0 x13_1).f1) == ((rd_T49 l1 x13_1).f1)) || ((!(((rd_T49 l0 x13_1).f2.f0) == ((rd_T49 l1 x13_1).f2.f0)) || (!(((rd_T49 l0 x13_1).f2.f1) == ((rd_T49 l1 x13_1).f2.f1))))))) = true
      · rw [if_pos c8] at H
        have c8b0 : (!(((rd_T49 l0 x13_1).f0) == ((rd_T49 l1 x13_1).f0)) || (!(((rd_T49 l0 x13_1).f1) == ((rd_T49 l1 x13_1).f1)) || ((!(((rd_T49 l0 x13_1).f2.f0) == ((rd_T49 l1 x13_1).f2.f0)) || (!(((rd_T49 l0 x13_1).f2.f1) == ((rd_T49 l1 x13_1).f2.f1))))))) = true := c8
        clear c8
        obtain rfl := Option.some.inj H
        have p336 : 0 ≤ (x13_1 : Int) := of_decide_eq_true q25
        have q336 : x13_1 < (l0.length : Int) := of_decide_eq_true q25
        obtain ⟨ad336, e336, hx336_0, hx336_1, hx336_2, hx336_3⟩ := at_T49 HR0.out x13_1 p336 q336
        cases e336
        replace p336 := eq_true p336
        replace q336 := eq_true q336
        have p337 : 0 ≤ (x13_1 : Int) := of_decide_eq_true q25
        have q337 : x13_1 < (l1.length : Int) := of_decide_eq_true q25
        obtain ⟨ad337, e337, hx337_0, hx337_1, hx337_2, hx337_3⟩ := at_T49 HR1.out x13_1 p337 q337
        cases e337
        replace p337 := eq_true p337
        replace q337 := eq_true q337
        go_wp2
        repeat (go_quiet (fail); try go_wp2)
        go_ret
        exact ⟨q43, q62⟩
      rw [if_neg c8] at H
      have c8b0 : (!(((rd_T49 l0 x13_1).f0) == ((rd_T49 l1 x13_1).f0)) || (!(((rd_T49 l0 x13_1).f1) == ((rd_T49 l1 x13_1).f1)) || ((!(((rd_T49 l0 x13_1).f2.f0) == ((rd_T49 l1 x13_1).f2.f0)) || (!(((rd_T49 l0 x13_1).f2.f1) == ((rd_T49 l1 x13_1).f2.f1))))))) = false := by simpa using c8
      clear c8
      have H' := Aside0.mk H
      clear H
      have p336 : 0 ≤ (x13_1 : Int) := of_decide_eq_true q25
      have q336 : x13_1 < (l0.length : Int) := of_decide_eq_true q25
      obtain ⟨ad336, e336, hx336_0, hx336_1, hx336_2, hx336_3⟩ := at_T49 HR0.out x13_1 p336 q336
      cases e336
      replace p336 := eq_true p336
      replace q336 := eq_true q336
      have p337 : 0 ≤ (x13_1 : Int) := of_decide_eq_true q25
      have q337 : x13_1 < (l1.length : Int) := of_decide_eq_true q25
      obtain ⟨ad337, e337, hx337_0, hx337_1, hx337_2, hx337_3⟩ := at_T49 HR1.out x13_1 p337 q337
      cases e337
      replace p337 := eq_true p337
      replace q337 := eq_true q337
      go_wp2
      repeat (go_quiet (fail); try go_wp2)
      go_roundg k1
      case measure => have := HK1.out; omega
      case rel => exact ⟨(wrap64 (x13_1 + 1)), q43, H', ⟨by have := HK1.out; omega⟩, q62⟩

/-! ### impl_EqualMachines: function 19 -/
def impl_EqualMachines.f (k : Nat) (l0_0 : List Int) (l0_1 : List (S49)) (l1_0 : List Int) (l1_1 : List (S49)) : Option (Bool) := (slices_Equal_int_int.f k l0_0 l1_0).bind fun t340 => (if t340 = true then ((slices_Equal_impl_Session_impl_Session.f k l0_1 l1_1).bind fun t341 => (some t341)) else (some false))
theorem impl_EqualMachines.mono : ∀ a0 a1 a2 a3 k, uN (impl_EqualMachines.f k a0 a1 a2 a3) (impl_EqualMachines.f (k + 1) a0 a1 a2 a3) := by
  intro a0 a1 a2 a3 k
  unfold impl_EqualMachines.f
  repeat' first
      | (with_reducible exact slices_Equal_impl_Session_impl_Session.mono _ _ _)
      | (with_reducible exact slices_Equal_int_int.mono _ _ _)
      | (with_reducible exact uN.refl _)
      | (with_reducible exact uN.none _)
      | (with_reducible refine uN.ite ?_ ?_)
      | (with_reducible refine uN.bind ?_ (fun _ => ?_))
      | exact slices_Equal_impl_Session_impl_Session.mono _ _ _
      | exact slices_Equal_int_int.mono _ _ _
      | exact uN.none _
      | refine uN.ite ?_ ?_
      | refine uN.bind ?_ (fun _ => ?_)
set_option maxHeartbeats 8000000 in
set_option maxRecDepth 100000 in
theorem impl_EqualMachines.calls (k : Nat) (A0_0 : Option Addr) (c0_0 : Nat) (l0_0 : List Int) (A0_1 : Option Addr) (c0_1 : Nat) (l0_1 : List (S49)) (A1_0 : Option Addr) (c1_0 : Nat) (l1_0 : List Int) (A1_1 : Option Addr) (c1_1 : Nat) (l1_1 : List (S49)) (r : Bool) (w : World) (hr0_0 : Kd.C (Kd.int .i64) w A0_0 l0_0.length l0_0) (hc0_0 : l0_0.length ≤ c0_0) (hr0_1 : Kd.C k49 w A0_1 l0_1.length l0_1) (hc0_1 : l0_1.length ≤ c0_1) (hr1_0 : Kd.C (Kd.int .i64) w A1_0 l1_0.length l1_0) (hc1_0 : l1_0.length ≤ c1_0) (hr1_1 : Kd.C k49 w A1_1 l1_1.length l1_1) (hc1_1 : l1_1.length ≤ c1_1) (h : impl_EqualMachines.f k l0_0 l0_1 l1_0 l1_1 = some r) :
    Calls Try.prog 19 #[.agg #[.slice A0_0 l0_0.length c0_0, .slice A0_1 l0_1.length c0_1], .agg #[.slice A1_0 l1_0.length c1_0, .slice A1_1 l1_1.length c1_1]] w fun e w' => e = .returned (.bool r) ∧ Below w.heap.size w w' := by
  have hu31 := Try.underlying31
  have HR0_0 := Aside0.mk hr0_0
  have HC0_0 := Aside0.mk hc0_0
  clear hr0_0 hc0_0
  have HR0_1 := Aside0.mk hr0_1
  have HC0_1 := Aside0.mk hc0_1
  clear hr0_1 hc0_1
  have HR1_0 := Aside0.mk hr1_0
  have HC1_0 := Aside0.mk hc1_0
  clear hr1_0 hc1_0
  have HR1_1 := Aside0.mk hr1_1
  have HC1_1 := Aside0.mk hc1_1
  clear hr1_1 hc1_1
  have HB := Aside0.mk (Below.refl w.heap.size w)
  have H : ((slices_Equal_int_int.f k l0_0 l1_0).bind fun t340 => (if t340 = true then ((slices_Equal_impl_Session_impl_Session.f k l0_1 l1_1).bind fun t341 => (some t341)) else (some false))) = some r := h
  clear h
  replace H := Option.bind_eq_some_iff.mp H
  obtain ⟨t340, A30, H⟩ := H
  try dsimp only at H
  have A3 := Aside0.mk A30
  clear A30
  go_enter Try.func19, Try.ntmps19
  go_wp2_with (first | ((with_reducible refine uI (N := 2) rfl ?_); refine bxe 2 #[.slice A0_0 l0_0.length c0_0, .slice A0_1 l0_1.length c0_1] 31 ?_; intro gb338 hg w11 hbox hb; have BK338 := Aside0.mk (hbox); have GW338 := tGe HB hg; have GE338 := tGe HB hg; replace HB := tBel HB hb; clear hb hbox hg) | ((with_reducible refine uI (N := 3) rfl ?_); refine bxe 3 #[.slice A1_0 l1_0.length c1_0, .slice A1_1 l1_1.length c1_1] 31 ?_; intro gb339 hg w12 hbox hb; have BK339 := Aside0.mk (hbox); have GW339 := tGe HB hg; have GE339 := tGe HB hg; have NB338_339 := tNl BK338 hg; have NB339_338 := tNg BK338 hg; replace BK338 := uL BK338 hb; replace HB := tBel HB hb; clear hb hbox hg; have hnb13 := NB338_339.out; have hnc13 := NB339_338.out; obtain ⟨hcz14_0, hcz14_1, hfz14_0, hfz14_1⟩ := cz2 BK338; obtain ⟨hcz15_0, hcz15_1, hfz15_0, hfz15_1⟩ := cz2 BK339; refine ?roundEnd))
  case roundEnd =>
  by_cases c4 : t340 = true
  rotate_left
  · replace c4 := Bool.eq_false_iff.mpr c4
    subst c4
    try rw [if_neg (show ¬ (false = true) by decide)] at H
    obtain rfl := Option.some.inj H
    go_wp2_with (first | ((with_reducible refine uH (f := 61) rfl ?_); refine vC (some 9) Try.func61 #[.slice A0_0 l0_0.length c0_0, .slice A1_0 l1_0.length c1_0] ?_; (with_reducible refine (slices_Equal_int_int.calls k _ _ l0_0 _ _ l1_0 false _ ?side1 ?side2 ?side3 ?side4 A3.out).mono ?_); (case side1 => exact q26); (case side2 => exact HC0_0.out); (case side3 => repeat (first | exact (Kd.uT HR1_0.out HB.out) | (with_reducible refine Kd.vJ ?_ _) | (with_reducible refine Kd.vK ?_ _) | (with_reducible refine Kd.C_drew ?_))); (case side4 => exact HC1_0.out); rintro e w' ⟨rfl, ⟨nd, rfl⟩⟩; refine ⟨_, rfl, ?_⟩))
    go_ret
    exact ⟨q5, q1⟩
  subst c4
  try rw [if_pos rfl] at H
  replace H := Option.bind_eq_some_iff.mp H
  obtain ⟨t341, A50, H⟩ := H
  try dsimp only at H
  have A5 := Aside0.mk A50
  clear A50
  obtain rfl := Option.some.inj H
  go_wp2_with (first | ((with_reducible refine uH (f := 61) rfl ?_); refine vC (some 9) Try.func61 #[.slice A0_0 l0_0.length c0_0, .slice A1_0 l1_0.length c1_0] ?_; (with_reducible refine (slices_Equal_int_int.calls k _ _ l0_0 _ _ l1_0 true _ ?side1 ?side2 ?side3 ?side4 A3.out).mono ?_); (case side1 => exact q26); (case side2 => exact HC0_0.out); (case side3 => repeat (first | exact (Kd.uT HR1_0.out HB.out) | (with_reducible refine Kd.vJ ?_ _) | (with_reducible refine Kd.vK ?_ _) | (with_reducible refine Kd.C_drew ?_))); (case side4 => exact HC1_0.out); rintro e w' ⟨rfl, ⟨nd, rfl⟩⟩; refine ⟨_, rfl, ?_⟩) | (go_at_call 62; (with_reducible refine (slices_Equal_impl_Session_impl_Session.calls k _ _ l0_1 _ _ l1_1 t341 _ ?side1 ?side2 ?side3 ?side4 A5.out).mono ?_); (case side1 => repeat (first | exact (Kd.uT HR0_1.out q1) | (with_reducible refine Kd.vJ ?_ _) | (with_reducible refine Kd.vK ?_ _) | (with_reducible refine Kd.C_drew ?_))); (case side2 => exact HC0_1.out); (case side3 => repeat (first | exact (Kd.uT HR1_1.out q1) | (with_reducible refine Kd.vJ ?_ _) | (with_reducible refine Kd.vK ?_ _) | (with_reducible refine Kd.C_drew ?_))); (case side4 => exact HC1_1.out); rintro e w' ⟨rfl, ⟨nd, rfl⟩⟩))
  go_ret
  exact ⟨q5, q1⟩

/-! ### impl_ReadObject: function 23 -/
def impl_ReadObject.f (k : Nat) (l0_0 : List Int) (l0_1 : List (S49)) (a1 : Int) : Option (Int × Bool) := (impl_IsValidMachine.f k l0_0 l0_1).bind fun t343 => (if t343 = true then ((impl_within.f a1 0 2).bind fun t344 => (if t344 = true then (if 0 ≤ a1 then (if a1 < (l0_0.length : Int) then (some (rd l0_0 a1, true)) else (none)) else (none)) else (some (0, false)))) else (some (0, false)))
theorem impl_ReadObject.mono : ∀ a0 a1 a2 k, uN (impl_ReadObject.f k a0 a1 a2) (impl_ReadObject.f (k + 1) a0 a1 a2) := by
  intro a0 a1 a2 k
  unfold impl_ReadObject.f
  repeat' first
      | (with_reducible exact impl_IsValidMachine.mono _ _ _)
      | (with_reducible exact uN.refl _)
      | (with_reducible exact uN.none _)
      | (with_reducible refine uN.ite ?_ ?_)
      | (with_reducible refine uN.bind ?_ (fun _ => ?_))
      | exact impl_IsValidMachine.mono _ _ _
      | exact uN.none _
      | refine uN.ite ?_ ?_
      | refine uN.bind ?_ (fun _ => ?_)
set_option maxHeartbeats 8000000 in
set_option maxRecDepth 100000 in
theorem impl_ReadObject.calls (k : Nat) (A0_0 : Option Addr) (c0_0 : Nat) (l0_0 : List Int) (A0_1 : Option Addr) (c0_1 : Nat) (l0_1 : List (S49)) (a1 : Int) (r1 : Int) (r2 : Bool) (w : World) (hr0_0 : Kd.C (Kd.int .i64) w A0_0 l0_0.length l0_0) (hc0_0 : l0_0.length ≤ c0_0) (hr0_1 : Kd.C k49 w A0_1 l0_1.length l0_1) (hc0_1 : l0_1.length ≤ c0_1) (h : impl_ReadObject.f k l0_0 l0_1 a1 = some (r1, r2)) :
    Calls Try.prog 23 #[.agg #[.slice A0_0 l0_0.length c0_0, .slice A0_1 l0_1.length c0_1], .int .i64 a1] w fun e w' => e = .returned (.tuple #[.int .i64 r1, .bool r2]) ∧ Below w.heap.size w w' := by
  have hu31 := Try.underlying31
  have HR0_0 := Aside0.mk hr0_0
  have HC0_0 := Aside0.mk hc0_0
  clear hr0_0 hc0_0
  have HR0_1 := Aside0.mk hr0_1
  have HC0_1 := Aside0.mk hc0_1
  clear hr0_1 hc0_1
  have HB := Aside0.mk (Below.refl w.heap.size w)
  have H : ((impl_IsValidMachine.f k l0_0 l0_1).bind fun t343 => (if t343 = true then ((impl_within.f a1 0 2).bind fun t344 => (if t344 = true then (if 0 ≤ a1 then (if a1 < (l0_0.length : Int) then (some (rd l0_0 a1, true)) else (none)) else (none)) else (some (0, false)))) else (some (0, false)))) = some (r1, r2) := h
  clear h
  replace H := Option.bind_eq_some_iff.mp H
  obtain ⟨t343, A30, H⟩ := H
  try dsimp only at H
  have A3 := Aside0.mk A30
  clear A30
  go_enter Try.func23, Try.ntmps23
  go_wp2_with (first | ((with_reducible refine uI (N := 2) rfl ?_); refine bxe 2 #[.slice A0_0 l0_0.length c0_0, .slice A0_1 l0_1.length c0_1] 31 ?_; intro gb342 hg w16 hbox hb; have BK342 := Aside0.mk (hbox); have GW342 := tGe HB hg; have GE342 := tGe HB hg; replace HB := tBel HB hb; clear hb hbox hg; obtain ⟨hcz17_0, hcz17_1, hfz17_0, hfz17_1⟩ := cz2 BK342; refine ?roundEnd))
  case roundEnd =>
  by_cases c4 : t343 = true
  rotate_left
  · replace c4 := Bool.eq_false_iff.mpr c4
    subst c4
    try rw [if_neg (show ¬ (false = true) by decide)] at H
    simp only [Option.some.injEq, Prod.mk.injEq] at H
    obtain ⟨rfl, rfl⟩ := H
    go_wp2_with (first | ((with_reducible refine uH (f := 20) rfl ?_); refine vC (some 7) Try.func20 #[.agg #[.slice A0_0 l0_0.length c0_0, .slice A0_1 l0_1.length c0_1]] ?_; (with_reducible refine (impl_IsValidMachine.calls k _ _ l0_0 _ _ l0_1 false _ ?side1 ?side2 ?side3 ?side4 A3.out).mono ?_); (case side1 => exact q26); (case side2 => exact HC0_0.out); (case side3 => exact q52); (case side4 => exact HC0_1.out); rintro e w18 ⟨rfl, hb⟩; refine ⟨_, rfl, ?_⟩; replace BK342 := uL BK342 hb; replace HB := tBel HB hb; (try clear hb); (try clear hb2); (try clear hk); (try clear hi)))
    go_ret2
    exact ⟨q5, q1⟩
  subst c4
  try rw [if_pos rfl] at H
  replace H := Option.bind_eq_some_iff.mp H
  obtain ⟨t344, A50, H⟩ := H
  try dsimp only at H
  have A5 := Aside0.mk A50
  clear A50
  go_wp2_with (first | ((with_reducible refine uH (f := 20) rfl ?_); refine vC (some 7) Try.func20 #[.agg #[.slice A0_0 l0_0.length c0_0, .slice A0_1 l0_1.length c0_1]] ?_; (with_reducible refine (impl_IsValidMachine.calls k _ _ l0_0 _ _ l0_1 true _ ?side1 ?side2 ?side3 ?side4 A3.out).mono ?_); (case side1 => exact q26); (case side2 => exact HC0_0.out); (case side3 => exact q52); (case side4 => exact HC0_1.out); rintro e w15 ⟨rfl, hb⟩; refine ⟨_, rfl, ?_⟩; replace BK342 := uL BK342 hb; replace HB := tBel HB hb; (try clear hb); (try clear hb2); (try clear hk); (try clear hi); refine ?roundEnd))
  case roundEnd =>
  by_cases c6 : t344 = true
  rotate_left
  · replace c6 := Bool.eq_false_iff.mpr c6
    subst c6
    try rw [if_neg (show ¬ (false = true) by decide)] at H
    simp only [Option.some.injEq, Prod.mk.injEq] at H
    obtain ⟨rfl, rfl⟩ := H
    go_wp2_with (first | (go_at_call 65; (with_reducible refine (impl_within.calls a1 0 2 false _ A5.out).mono ?_); rintro e w' ⟨rfl, ⟨nd, rfl⟩⟩))
    go_ret2
    exact ⟨q5, q1⟩
  subst c6
  try rw [if_pos rfl] at H
  by_cases c7 : 0 ≤ a1
  rotate_left
  · rw [if_neg c7] at H
    exact absurd H (by simp)
  rw [if_pos c7] at H
  have c7b0 : decide (0 ≤ a1) = true := decide_eq_true c7
  clear c7
  by_cases c8 : a1 < (l0_0.length : Int)
  rotate_left
  · rw [if_neg c8] at H
    exact absurd H (by simp)
  rw [if_pos c8] at H
  have c8b0 : decide (a1 < (l0_0.length : Int)) = true := decide_eq_true c8
  clear c8
  simp only [Option.some.injEq, Prod.mk.injEq] at H
  obtain ⟨rfl, rfl⟩ := H
  go_wp2_with (first | (go_at_call 65; (with_reducible refine (impl_within.calls a1 0 2 true _ A5.out).mono ?_); rintro e w' ⟨rfl, ⟨nd, rfl⟩⟩; obtain ⟨hcz12_0, hcz12_1, hfz12_0, hfz12_1⟩ := cz2 BK342; have p345 : 0 ≤ (a1 : Int) := of_decide_eq_true q25; have q345 : a1 < (l0_0.length : Int) := of_decide_eq_true q25; obtain ⟨ad345, e345, hx345_0⟩ := Kd.at_int HR0_0.out a1 p345 q345; cases e345; replace hx345_0 := (HB.out.cell (vU w _ hx345_0)).trans hx345_0; replace p345 := eq_true p345; replace q345 := eq_true q345))
  go_ret2
  exact ⟨q5, q1⟩

/-! ### spec_ReadObject: function 24 -/
def spec_ReadObject.f (k : Nat) (l0_0 : List Int) (l0_1 : List (S49)) (a1 : Int) : Option (Int × Bool) := (spec_IsValidMachine.f k l0_0 l0_1).bind fun t347 => (if t347 = true then ((spec_l1In.f a1 0 2).bind fun t348 => (if t348 = true then (if 0 ≤ a1 then (if a1 < (l0_0.length : Int) then (some (rd l0_0 a1, true)) else (none)) else (none)) else (some (0, false)))) else (some (0, false)))
theorem spec_ReadObject.mono : ∀ a0 a1 a2 k, uN (spec_ReadObject.f k a0 a1 a2) (spec_ReadObject.f (k + 1) a0 a1 a2) := by
  intro a0 a1 a2 k
  unfold spec_ReadObject.f
  repeat' first
      | (with_reducible exact spec_IsValidMachine.mono _ _ _)
      | (with_reducible exact uN.refl _)
      | (with_reducible exact uN.none _)
      | (with_reducible refine uN.ite ?_ ?_)
      | (with_reducible refine uN.bind ?_ (fun _ => ?_))
      | exact spec_IsValidMachine.mono _ _ _
      | exact uN.none _
      | refine uN.ite ?_ ?_
      | refine uN.bind ?_ (fun _ => ?_)
set_option maxHeartbeats 8000000 in
set_option maxRecDepth 100000 in
theorem spec_ReadObject.calls (k : Nat) (A0_0 : Option Addr) (c0_0 : Nat) (l0_0 : List Int) (A0_1 : Option Addr) (c0_1 : Nat) (l0_1 : List (S49)) (a1 : Int) (r1 : Int) (r2 : Bool) (w : World) (hr0_0 : Kd.C (Kd.int .i64) w A0_0 l0_0.length l0_0) (hc0_0 : l0_0.length ≤ c0_0) (hr0_1 : Kd.C k49 w A0_1 l0_1.length l0_1) (hc0_1 : l0_1.length ≤ c0_1) (h : spec_ReadObject.f k l0_0 l0_1 a1 = some (r1, r2)) :
    Calls Try.prog 24 #[.agg #[.slice A0_0 l0_0.length c0_0, .slice A0_1 l0_1.length c0_1], .int .i64 a1] w fun e w' => e = .returned (.tuple #[.int .i64 r1, .bool r2]) ∧ Below w.heap.size w w' := by
  have hu31 := Try.underlying31
  have HR0_0 := Aside0.mk hr0_0
  have HC0_0 := Aside0.mk hc0_0
  clear hr0_0 hc0_0
  have HR0_1 := Aside0.mk hr0_1
  have HC0_1 := Aside0.mk hc0_1
  clear hr0_1 hc0_1
  have HB := Aside0.mk (Below.refl w.heap.size w)
  have H : ((spec_IsValidMachine.f k l0_0 l0_1).bind fun t347 => (if t347 = true then ((spec_l1In.f a1 0 2).bind fun t348 => (if t348 = true then (if 0 ≤ a1 then (if a1 < (l0_0.length : Int) then (some (rd l0_0 a1, true)) else (none)) else (none)) else (some (0, false)))) else (some (0, false)))) = some (r1, r2) := h
  clear h
  replace H := Option.bind_eq_some_iff.mp H
  obtain ⟨t347, A30, H⟩ := H
  try dsimp only at H
  have A3 := Aside0.mk A30
  clear A30
  go_enter Try.func24, Try.ntmps24
  go_wp2_with (first | ((with_reducible refine uI (N := 2) rfl ?_); refine bxe 2 #[.slice A0_0 l0_0.length c0_0, .slice A0_1 l0_1.length c0_1] 31 ?_; intro gb346 hg w16 hbox hb; have BK346 := Aside0.mk (hbox); have GW346 := tGe HB hg; have GE346 := tGe HB hg; replace HB := tBel HB hb; clear hb hbox hg; obtain ⟨hcz17_0, hcz17_1, hfz17_0, hfz17_1⟩ := cz2 BK346; refine ?roundEnd))
  case roundEnd =>
  by_cases c4 : t347 = true
  rotate_left
  · replace c4 := Bool.eq_false_iff.mpr c4
    subst c4
    try rw [if_neg (show ¬ (false = true) by decide)] at H
    simp only [Option.some.injEq, Prod.mk.injEq] at H
    obtain ⟨rfl, rfl⟩ := H
    go_wp2_with (first | ((with_reducible refine uH (f := 21) rfl ?_); refine vC (some 7) Try.func21 #[.agg #[.slice A0_0 l0_0.length c0_0, .slice A0_1 l0_1.length c0_1]] ?_; (with_reducible refine (spec_IsValidMachine.calls k _ _ l0_0 _ _ l0_1 false _ ?side1 ?side2 ?side3 ?side4 A3.out).mono ?_); (case side1 => exact q26); (case side2 => exact HC0_0.out); (case side3 => exact q52); (case side4 => exact HC0_1.out); rintro e w18 ⟨rfl, hb⟩; refine ⟨_, rfl, ?_⟩; replace BK346 := uL BK346 hb; replace HB := tBel HB hb; (try clear hb); (try clear hb2); (try clear hk); (try clear hi)))
    go_ret2
    exact ⟨q5, q1⟩
  subst c4
  try rw [if_pos rfl] at H
  replace H := Option.bind_eq_some_iff.mp H
  obtain ⟨t348, A50, H⟩ := H
  try dsimp only at H
  have A5 := Aside0.mk A50
  clear A50
  go_wp2_with (first | ((with_reducible refine uH (f := 21) rfl ?_); refine vC (some 7) Try.func21 #[.agg #[.slice A0_0 l0_0.length c0_0, .slice A0_1 l0_1.length c0_1]] ?_; (with_reducible refine (spec_IsValidMachine.calls k _ _ l0_0 _ _ l0_1 true _ ?side1 ?side2 ?side3 ?side4 A3.out).mono ?_); (case side1 => exact q26); (case side2 => exact HC0_0.out); (case side3 => exact q52); (case side4 => exact HC0_1.out); rintro e w15 ⟨rfl, hb⟩; refine ⟨_, rfl, ?_⟩; replace BK346 := uL BK346 hb; replace HB := tBel HB hb; (try clear hb); (try clear hb2); (try clear hk); (try clear hi); refine ?roundEnd))
  case roundEnd =>
  by_cases c6 : t348 = true
  rotate_left
  · replace c6 := Bool.eq_false_iff.mpr c6
    subst c6
    try rw [if_neg (show ¬ (false = true) by decide)] at H
    simp only [Option.some.injEq, Prod.mk.injEq] at H
    obtain ⟨rfl, rfl⟩ := H
    go_wp2_with (first | (go_at_call 66; (with_reducible refine (spec_l1In.calls a1 0 2 false _ A5.out).mono ?_); rintro e w' ⟨rfl, ⟨nd, rfl⟩⟩))
    go_ret2
    exact ⟨q5, q1⟩
  subst c6
  try rw [if_pos rfl] at H
  by_cases c7 : 0 ≤ a1
  rotate_left
  · rw [if_neg c7] at H
    exact absurd H (by simp)
  rw [if_pos c7] at H
  have c7b0 : decide (0 ≤ a1) = true := decide_eq_true c7
  clear c7
  by_cases c8 : a1 < (l0_0.length : Int)
  rotate_left
  · rw [if_neg c8] at H
    exact absurd H (by simp)
  rw [if_pos c8] at H
  have c8b0 : decide (a1 < (l0_0.length : Int)) = true := decide_eq_true c8
  clear c8
  simp only [Option.some.injEq, Prod.mk.injEq] at H
  obtain ⟨rfl, rfl⟩ := H
  go_wp2_with (first | (go_at_call 66; (with_reducible refine (spec_l1In.calls a1 0 2 true _ A5.out).mono ?_); rintro e w' ⟨rfl, ⟨nd, rfl⟩⟩; obtain ⟨hcz12_0, hcz12_1, hfz12_0, hfz12_1⟩ := cz2 BK346; have p349 : 0 ≤ (a1 : Int) := of_decide_eq_true q25; have q349 : a1 < (l0_0.length : Int) := of_decide_eq_true q25; obtain ⟨ad349, e349, hx349_0⟩ := Kd.at_int HR0_0.out a1 p349 q349; cases e349; replace hx349_0 := (HB.out.cell (vU w _ hx349_0)).trans hx349_0; replace p349 := eq_true p349; replace q349 := eq_true q349))
  go_ret2
  exact ⟨q5, q1⟩

end Go.Proofs.Ytcikahnmiiichaa.M
