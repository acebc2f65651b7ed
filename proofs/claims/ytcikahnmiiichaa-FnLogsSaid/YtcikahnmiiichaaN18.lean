/- Go functions as Lean functions, and the proof that the code comes to them: written by a program of this session out of the translation. -/
import Derived.Test.YtcikahnmiiichaaN0
import Derived.Test.YtcikahnmiiichaaN3
import Derived.Test.YtcikahnmiiichaaN17
namespace Go.Proofs.Ytcikahnmiiichaa.N
open List renaming setIfInBounds_toArray → yA, set_cons_zero → yB, set_cons_succ → yC, map_toArray → yD
open Go.World renaming block_lt_of_cell? → yG
open Go.RowKit Go.Proofs.YtcikahnmiiichaaW.PrintWords Go.Proofs.YtcikahnmiiichaaW.PrintLast Go.Proofs.YtcikahnmiiichaaW.PrintMore
attribute [local go_sem] max2_int min2_int max_two min_two vX vY max_four min_four   -- for this text's walks alone
set_option linter.unusedVariables false
set_option linter.unusedSimpArgs false

attribute [local go_sem high] eqA72
/-! ### spec_l5Any: function 73 -/
def spec_l5Any.l0 : Nat → List (S72) → List Int → Int → Int → Option ((List (S72)) × Int × Int)
  | 0, _, _, _, _ => none
  | k + 1, x3, x1000, x1001, x1002 => if (x3.length : Int) < 17 then ((spec_l3Op.f x1000 x1001 x1002).bind fun bt405 => (if x3.length < 2513169434916 then (spec_l5Any.l0 k (x3 ++ [(⟨20, (⟨bt405.1, bt405.2.1, bt405.2.2.1, bt405.2.2.2.1, bt405.2.2.2.2.1, bt405.2.2.2.2.2.1⟩ : S37)⟩ : S72)]) x1000 bt405.2.2.2.2.2.2.1 bt405.2.2.2.2.2.2.2) else (none))) else (some (x3, x1001, x1002))
def spec_l5Any.f (k : Nat) (s0_0 : List Int) (s0_1 : Int) (s0_2 : Int) : Option ((List (S72)) × Int × Int) := (spec_l5Log.f k s0_0 s0_1 s0_2).bind fun bt380 => ((spec_l1Below.f s0_0 bt380.2.1 bt380.2.2 14).bind fun bt385 => (if bt385.1 = 0 then ((spec_l1PickInt.f s0_0 bt385.2.1 bt385.2.2 (([0, 1, 20, 21] : List Int))).bind fun bt391 => ((spec_l3Any.f s0_0 bt391.2.1 bt391.2.2).bind fun bt394 => (if bt380.1.length < 2513169434916 then (some ((bt380.1 ++ [(⟨bt391.1, (⟨bt394.1, bt394.2.1, bt394.2.2.1, bt394.2.2.2.1, bt394.2.2.2.2.1, bt394.2.2.2.2.2.1⟩ : S37)⟩ : S72)]), bt394.2.2.2.2.2.2.1, bt394.2.2.2.2.2.2.2)) else (none)))) else (if bt385.1 = 1 then (spec_l5Any.l0 k bt380.1 s0_0 bt385.2.1 bt385.2.2) else (some (bt380.1, bt385.2.1, bt385.2.2)))))
theorem spec_l5Any.mono_l : ∀ k, (∀ y0 y1 y2 y3, uI (spec_l5Any.l0 k y0 y1 y2 y3) (spec_l5Any.l0 (k + 1) y0 y1 y2 y3))
  | 0 => fun _ _ _ _ r h => by simp [spec_l5Any.l0] at h
  | k + 1 => by
    have ih0 := spec_l5Any.mono_l k
    intro y0 y1 y2 y3
    unfold spec_l5Any.l0
    repeat' first
    | (with_reducible exact ih0 _ _ _ _)
    | (with_reducible exact spec_l5Log.mono _ _ _ _)
    | (with_reducible exact uI.refl _)
    | (with_reducible exact uI.none _)
    | (with_reducible refine uI.ite ?_ ?_)
    | (with_reducible refine uI.bind ?_ (fun _ => ?_))
    | exact ih0 _ _ _ _
    | exact uI.none _
    | refine uI.ite ?_ ?_
    | refine uI.bind ?_ (fun _ => ?_)
theorem spec_l5Any.mono : ∀ a0 a1 a2 k, uI (spec_l5Any.f k a0 a1 a2) (spec_l5Any.f (k + 1) a0 a1 a2) := by
  intro a0 a1 a2 k
  have ih0 := spec_l5Any.mono_l k
  unfold spec_l5Any.f
  repeat' first
      | (with_reducible exact ih0 _ _ _ _)
      | (with_reducible exact spec_l5Log.mono _ _ _ _)
      | (with_reducible exact uI.refl _)
      | (with_reducible exact uI.none _)
      | (with_reducible refine uI.ite ?_ ?_)
      | (with_reducible refine uI.bind ?_ (fun _ => ?_))
      | exact ih0 _ _ _ _
      | exact uI.none _
      | refine uI.ite ?_ ?_
      | refine uI.bind ?_ (fun _ => ?_)
set_option maxHeartbeats 8000000 in
set_option maxRecDepth 100000 in
theorem spec_l5Any.calls (k : Nat) (g : Nat) (s0_0 : List Int) (s0_1 : Int) (s0_2 : Int) (r1 : List (S72)) (r2 : Int) (r3 : Int) (w0 w : World) (hI : IsS112 w0 w g s0_0 s0_1 s0_2) (hB : Below w0.heap.size w0 w) (h : spec_l5Any.f k s0_0 s0_1 s0_2 = some (r1, r2, r3)) :
    Calls Try.prog 73 #[.pointer (some ⟨g, 0, none⟩)] w fun e w' => ∃ v0_ : Value, e = .returned (v0_) ∧ Kd.R k72 72 w' w.heap.size (fun _ => True) v0_ r1 ∧ IsS112 w0 w' g s0_0 r2 r3 ∧ Below w0.heap.size w0 w' ∧ vP w w' g none := by
  have hu72 := Try.underlying72
  have hu37 := Try.underlying37
  have HI0 := Aside0.mk hI
  have HK := Aside0.mk (vP.refl w g none)
  have HL := Aside0.mk hB.size
  clear hI
  have HW0 := Aside0.mk hB.size
  have HB := Aside0.mk hB
  clear hB
  have H : ((spec_l5Log.f k s0_0 s0_1 s0_2).bind fun bt380 => ((spec_l1Below.f s0_0 bt380.2.1 bt380.2.2 14).bind fun bt385 => (if bt385.1 = 0 then ((spec_l1PickInt.f s0_0 bt385.2.1 bt385.2.2 (([0, 1, 20, 21] : List Int))).bind fun bt391 => ((spec_l3Any.f s0_0 bt391.2.1 bt391.2.2).bind fun bt394 => (if bt380.1.length < 2513169434916 then (some ((bt380.1 ++ [(⟨bt391.1, (⟨bt394.1, bt394.2.1, bt394.2.2.1, bt394.2.2.2.1, bt394.2.2.2.2.1, bt394.2.2.2.2.2.1⟩ : S37)⟩ : S72)]), bt394.2.2.2.2.2.2.1, bt394.2.2.2.2.2.2.2)) else (none)))) else (if bt385.1 = 1 then (spec_l5Any.l0 k bt380.1 s0_0 bt385.2.1 bt385.2.2) else (some (bt380.1, bt385.2.1, bt385.2.2)))))) = some (r1, r2, r3) := h
  clear h
  replace H := Option.bind_eq_some_iff.mp H
  obtain ⟨⟨t380, t383, t384⟩, A20, H⟩ := H
  try dsimp only at H
  have A2 := Aside0.mk A20
  clear A20
  replace H := Option.bind_eq_some_iff.mp H
  obtain ⟨⟨t385, t386, t387⟩, A30, H⟩ := H
  try dsimp only at H
  have A3 := Aside0.mk A30
  clear A30
  by_cases c4 : t385 = 0
  · rw [if_pos c4] at H
    have c4b0 := beq_iff_eq.mpr c4
    have c4b1 := bne_eq_false_iff_eq.mpr c4
    clear c4
    obtain ⟨y388, hy388⟩ : ∃ y_ : List Int, y_ = (([0, 1, 20, 21] : List Int)) := ⟨_, rfl⟩
    replace H : ((spec_l1PickInt.f s0_0 t386 t387 y388).bind fun bt391 => ((spec_l3Any.f s0_0 bt391.2.1 bt391.2.2).bind fun bt394 => (if t380.length < 2513169434916 then (some ((t380 ++ [(⟨bt391.1, (⟨bt394.1, bt394.2.1, bt394.2.2.1, bt394.2.2.2.1, bt394.2.2.2.2.1, bt394.2.2.2.2.2.1⟩ : S37)⟩ : S72)]), bt394.2.2.2.2.2.2.1, bt394.2.2.2.2.2.2.2)) else (none)))) = some (r1, r2, r3) := rpl hy388 H
    have Ny388 := Aside0.mk hy388
    clear hy388
    replace H := Option.bind_eq_some_iff.mp H
    obtain ⟨⟨t391, t392, t393⟩, A50, H⟩ := H
    try dsimp only at H
    have A5 := Aside0.mk A50
    clear A50
    replace H := Option.bind_eq_some_iff.mp H
    obtain ⟨⟨t394, t395, t396, t397, t398, t399, t400, t401⟩, A60, H⟩ := H
    try dsimp only at H
    have A6 := Aside0.mk A60
    clear A60
    obtain ⟨LMc7, H⟩ := ifL H
    obtain ⟨y402, hy402⟩ : ∃ y_ : List (S72), y_ = (t380 ++ [(⟨t391, (⟨t394, t395, t396, t397, t398, t399⟩ : S37)⟩ : S72)]) := ⟨_, rfl⟩
    replace H : (some (y402, t400, t401)) = some (r1, r2, r3) := rpl hy402 H
    have Ny402 := Aside0.mk hy402
    clear hy402
    simp only [Option.some.injEq, Prod.mk.injEq] at H
    obtain ⟨rfl, rfl, rfl⟩ := H
    go_enter Try.func73, Try.ntmps73
    go_wp2_with (first | ((with_reducible refine uF (f := 89) rfl ?_); refine uX (some 6) Try.func89 #[.pointer (some ⟨g, 0, none⟩)] ?_; (with_reducible refine (spec_l5Log.calls k g s0_0 s0_1 s0_2 t380 t383 t384 w0 _ ?side1 ?side2 A2.out).mono ?_); (case side1 => exact cq2); (case side2 => exact cq5); rintro e w8 ⟨v381, rfl, ho0, hi, hb, hk⟩; refine ⟨_, rfl, ?_⟩; have HO382 := Aside0.mk (Kd.uS ho0 (keep_size (w := w) (g := g) (row := none) cq14)); replace HK := vJ HK hk; replace HB := Aside0.mk (hb); replace HI0 := Aside0.mk (hi); (try clear hb); (try clear hk); (try clear hi); (try clear ho0)) | ((with_reducible refine uF (f := 74) rfl ?_); refine uX (some 8) Try.func74 #[.pointer (some ⟨g, 0, none⟩), .int .i64 14] ?_; (with_reducible refine (spec_l1Below.calls g s0_0 t383 t384 14 t385 t386 t387 w0 _ ?side1 ?side2 A3.out).mono ?_); (case side1 => exact cq2); (case side2 => exact cq5); rintro e w9 ⟨rfl, hi, hb, hk⟩; refine ⟨_, rfl, ?_⟩; replace HO382 := Aside0.mk (Kd.uN (Kd.R_keep (IsS112.apart (show IsS112 w0 _ g s0_0 t383 t384 from by repeat (first | (with_reducible first | exact HI0.out | apply IsS112.alloc | apply IsS112.drewN | apply IsS112.drew | apply IsS112.set_1 | apply IsS112.set_2) | exact HI0.out)) (uZ HO382.out) (by decide)) hk (fun _ h => h.2)) (fun _ h => h.1)); replace HK := vJ HK hk; replace HB := Aside0.mk (hb); replace HI0 := Aside0.mk (hi); (try clear hb); (try clear hk); (try clear hi)) | ((with_reducible refine uJ (N := 13) rfl ?_); refine Kd.R_lit (Kd.int .i64) _ 3 ?hg (N := 13) ?hd (xs := ([0, 1, 20, 21] : List Int)) (inner := [.int .i64 0, .int .i64 1, .int .i64 20, .int .i64 21]) (ok := fun _ => True) (okp := fun _ => True) ?hr ?hp (fun _ hk => hk) trivial (Below.refl _ _) (Nat.le_refl _) (by simp) ?_; (case hd => rfl); (case hg => rfl); (case hr => first | (go_simp; done) | (go_simp; rfl)); (case hp => exact (vN.one (show Kd.M (Kd.int .i64) _ _ _ 0 [.int .i64 0] from rfl) (vN.one (show Kd.M (Kd.int .i64) _ _ _ 1 [.int .i64 1] from rfl) (vN.one (show Kd.M (Kd.int .i64) _ _ _ 20 [.int .i64 20] from rfl) (vN.one (show Kd.M (Kd.int .i64) _ _ _ 21 [.int .i64 21] from rfl) (vN.none _ _)))))); intro v389 w10 ho11 hb hg_ hnew_; clear hg_ hnew_; (first | rw [← Ny388.out] at ho11 | (simp only [Int.reduceToNat] at ho11; rw [← Ny388.out] at ho11)); have HO390 := Aside0.mk (Kd.uS ho11 (keep_size (w := w) (g := g) (row := none) cq14)); replace HO382 := Kd.tR HO382 hb; replace HI0 := Aside0.mk (IsS112.below cq2 hb); replace HK := vJ HK (vP.of_below hb g none); replace HB := tBel1 HB hb; clear hb ho11; obtain ⟨Ao12, co12, eo12⟩ := Kd.uY HO390.out; subst eo12) | ((with_reducible refine uF (f := 75) rfl ?_); refine uX (some 14) Try.func75 #[.pointer (some ⟨g, 0, none⟩), .slice Ao12 y388.length co12] ?_; (with_reducible refine (spec_l1PickInt.calls g s0_0 t386 t387 _ _ y388 t391 t392 t393 w0 _ ?side1 ?side2 ?side3 ?side4 ?side5 A5.out).mono ?_); (case side1 => exact cq2); (case side2 => exact cq5); (case side3 => repeat (first | exact (Kd.uK HO390.out).2.2 | (with_reducible refine Kd.vW ?_ _) | (with_reducible refine Kd.vV ?_ _) | (with_reducible refine Kd.C_drew ?_))); (case side4 => exact (Kd.uK HO390.out).2.1); (case side5 => exact far_slice (IsS112.own_ne HI0.out HO390.out (by decide))); rintro e w13 ⟨rfl, hi, hb, hk⟩; refine ⟨_, rfl, ?_⟩; replace HO382 := Aside0.mk (Kd.uN (Kd.R_keep (IsS112.apart (show IsS112 w0 _ g s0_0 t386 t387 from by repeat (first | (with_reducible first | exact HI0.out | apply IsS112.alloc | apply IsS112.drewN | apply IsS112.drew | apply IsS112.set_1 | apply IsS112.set_2) | exact HI0.out)) (uZ HO382.out) (by decide)) hk (fun _ h => h.2)) (fun _ h => h.1)); replace HO390 := Aside0.mk (Kd.uN (Kd.R_keep (IsS112.apart (show IsS112 w0 _ g s0_0 t386 t387 from by repeat (first | (with_reducible first | exact HI0.out | apply IsS112.alloc | apply IsS112.drewN | apply IsS112.drew | apply IsS112.set_1 | apply IsS112.set_2) | exact HI0.out)) (uZ HO390.out) (by decide)) hk (fun _ h => h.2)) (fun _ h => h.1)); replace HK := vJ HK hk; replace HB := Aside0.mk (hb); replace HI0 := Aside0.mk (hi); (try clear hb); (try clear hk); (try clear hi)) | ((with_reducible refine uF (f := 60) rfl ?_); refine uX (some 16) Try.func60 #[.pointer (some ⟨g, 0, none⟩)] ?_; (with_reducible refine (spec_l3Any.calls g s0_0 t392 t393 t394 t395 t396 t397 t398 t399 t400 t401 w0 _ ?side1 ?side2 A6.out).mono ?_); (case side1 => exact cq2); (case side2 => exact cq5); rintro e w14 ⟨rfl, hi, hb, hk⟩; refine ⟨_, rfl, ?_⟩; replace HO382 := Aside0.mk (Kd.uN (Kd.R_keep (IsS112.apart (show IsS112 w0 _ g s0_0 t392 t393 from by repeat (first | (with_reducible first | exact HI0.out | apply IsS112.alloc | apply IsS112.drewN | apply IsS112.drew | apply IsS112.set_1 | apply IsS112.set_2) | exact HI0.out)) (uZ HO382.out) (by decide)) hk (fun _ h => h.2)) (fun _ h => h.1)); replace HO390 := Aside0.mk (Kd.uN (Kd.R_keep (IsS112.apart (show IsS112 w0 _ g s0_0 t392 t393 from by repeat (first | (with_reducible first | exact HI0.out | apply IsS112.alloc | apply IsS112.drewN | apply IsS112.drew | apply IsS112.set_1 | apply IsS112.set_2) | exact HI0.out)) (uZ HO390.out) (by decide)) hk (fun _ h => h.2)) (fun _ h => h.1)); replace HK := vJ HK hk; replace HB := Aside0.mk (hb); replace HI0 := Aside0.mk (hi); (try clear hb); (try clear hk); (try clear hi)) | ((with_reducible refine gate_builtin (b := .append) (xs := #[.tmp 11, .tmp 18]) rfl ?_); at_builtin; refine Kd.R_append k72 w.heap.size rfl (.tmp 11) (.tmp 18) 58 72 (.agg #[(.int .i64 0), (.int .i64 0), (.int .i64 0), (.int .i64 0), (.int .i64 0), (.int .i64 0), (.int .i64 0)]) 56 rfl Try.underlying58 info72 rfl (by decide) (by omega) v381 t380 (⟨t391, (⟨t394, t395, t396, t397, t398, t399⟩ : S37)⟩ : S72) [.int .i64 t391, .int .i64 t394, .int .i64 t395, .int .i64 t396, .int .i64 t397, .int .i64 t398, .int .i64 t399] (fun _ => True) (fun _ => False) rfl rfl ?aP (fun _ hk => hk.elim) ?aF ?aO (Below.refl _ _) ?aS ?aL ?_; (case aP => exact k72_mkM _ _ _ (⟨t391, (⟨t394, t395, t396, t397, t398, t399⟩ : S37)⟩ : S72)); (case aF => exact (fun _ _ => trivial)); (case aO => exact (uZ HO382.out)); (case aS => exact (keep_size (w := w) (g := g) (row := none) cq14)); (case aL => have := LMc7.out; omega); intro v403 w15 ho hb hg hat; rw [← Ny402.out] at ho; have n0_ := IsS112.tgr HI0 hg (IsS112.own_ne HI0.out HO382.out (by decide)); have n1_ := Aside0.mk (Kd.R_over' (uZ HO390.out) (Kd.R_typed (uZ HO382.out)) (by decide) hg); have n2_ := Aside0.mk (below_weaken cq5 HL.out hb); have n3_ := Aside0.mk (vP.trans cq14 (vP.of_grown hg g) (Kd.R_base2 HO382.out)); have n4_ := Aside0.mk (ho); clear HI0; clear HO390; clear HB; clear HK; clear HO382; have HI0 := n0_; have HO390 := n1_; have HB := n2_; have HK := n3_; have HO404 := n4_; clear n0_ n1_ n2_ n3_ n4_; clear ho hb hg hat))
    go_ret
    exact ⟨_, cq3, by (with_reducible repeat (first | apply Kd.uQ | apply Kd.uR | apply Kd.uV)); exact HO404.out, cq2, cq5, cq14⟩
  rw [if_neg c4] at H
  have c4b0 := beq_eq_false_iff_ne.mpr c4
  have c4b1 := bne_iff_ne.mpr c4
  go_enter Try.func73, Try.ntmps73
  go_wp2_with (first | ((with_reducible refine uF (f := 89) rfl ?_); refine uX (some 6) Try.func89 #[.pointer (some ⟨g, 0, none⟩)] ?_; (with_reducible refine (spec_l5Log.calls k g s0_0 s0_1 s0_2 t380 t383 t384 w0 _ ?side1 ?side2 A2.out).mono ?_); (case side1 => exact cq2); (case side2 => exact cq5); rintro e w29 ⟨v381, rfl, ho0, hi, hb, hk⟩; refine ⟨_, rfl, ?_⟩; have HO382 := Aside0.mk (Kd.uS ho0 (keep_size (w := w) (g := g) (row := none) cq14)); replace HK := vJ HK hk; replace HB := Aside0.mk (hb); replace HI0 := Aside0.mk (hi); (try clear hb); (try clear hk); (try clear hi); (try clear ho0)) | ((with_reducible refine uF (f := 74) rfl ?_); refine uX (some 8) Try.func74 #[.pointer (some ⟨g, 0, none⟩), .int .i64 14] ?_; (with_reducible refine (spec_l1Below.calls g s0_0 t383 t384 14 t385 t386 t387 w0 _ ?side1 ?side2 A3.out).mono ?_); (case side1 => exact cq2); (case side2 => exact cq5); rintro e w30 ⟨rfl, hi, hb, hk⟩; refine ⟨_, rfl, ?_⟩; replace HO382 := Aside0.mk (Kd.uN (Kd.R_keep (IsS112.apart (show IsS112 w0 _ g s0_0 t383 t384 from by repeat (first | (with_reducible first | exact HI0.out | apply IsS112.alloc | apply IsS112.drewN | apply IsS112.drew | apply IsS112.set_1 | apply IsS112.set_2) | exact HI0.out)) (uZ HO382.out) (by decide)) hk (fun _ h => h.2)) (fun _ h => h.1)); replace HK := vJ HK hk; replace HB := Aside0.mk (hb); replace HI0 := Aside0.mk (hi); (try clear hb); (try clear hk); (try clear hi); refine ?roundEnd))
  case roundEnd =>
  by_cases c16 : t385 = 1
  rotate_left
  · rw [if_neg c16] at H
    have c16b0 := beq_eq_false_iff_ne.mpr c16
    have c16b1 := bne_iff_ne.mpr c16
    simp only [Option.some.injEq, Prod.mk.injEq] at H
    obtain ⟨rfl, rfl, rfl⟩ := H
    go_wp2
    go_ret
    exact ⟨_, cq3, by (with_reducible repeat (first | apply Kd.uQ | apply Kd.uR | apply Kd.uV)); exact HO382.out, cq2, cq5, cq14⟩
  rw [if_pos c16] at H
  have c16b0 := beq_iff_eq.mpr c16
  have c16b1 := bne_eq_false_iff_eq.mpr c16
  clear c16
  have H' := Aside0.mk H
  clear H
  go_wp2
  go_loopg [3] k (fun kq v3 w' => ∃ (x3_1 : List (S72)) (x1001_1 : Int) (x1002_1 : Int), Aside0 (spec_l5Any.l0 kq x3_1 s0_0 x1001_1 x1002_1 = some (r1, r2, r3)) ∧ Aside0 (kq ≤ k) ∧ Aside0 (Kd.R k72 72 w' w.heap.size (fun _ => True) v3 x3_1) ∧ Aside0 (IsS112 w0 w' g s0_0 x1001_1 x1002_1) ∧ Aside0 (vP w w' g none) ∧ Aside0 (Below w0.heap.size w0 w'))
  case atStart => exact ⟨(t380), (t386), (t387), H', ⟨Nat.le_refl _⟩, ⟨by (with_reducible repeat (first | apply Kd.uQ | apply Kd.uR | apply Kd.uV)); exact HO382.out⟩, ⟨cq2⟩, ⟨cq14⟩, ⟨cq5⟩⟩
  case round =>
    clear H'
    try clear c4
    try clear c4b0
    try clear c4b1
    try clear c16
    try clear c16b0
    try clear c16b1
    obtain ⟨x3_1, x1001_1, x1002_1, HA, HK1, HO_3, HI0, HK, HB⟩ := hrel
    cases gk with
    | zero => exact absurd HA.out (by simp [spec_l5Any.l0])
    | succ k1 =>
      have H := HA.out
      clear HA
      simp only [spec_l5Any.l0] at H
      by_cases c19 : (x3_1.length : Int) < 17
      rotate_left
      · rw [if_neg c19] at H
        have c19b0 := decide_eq_false c19
        have c19b1 : decide (x3_1.length < 17) = false := decide_eq_false (by omega)
        clear c19
        simp only [Option.some.injEq, Prod.mk.injEq] at H
        obtain ⟨rfl, rfl, rfl⟩ := H
        obtain ⟨Ao28, co28, eo28⟩ := Kd.uY HO_3.out
        subst eo28
        go_wp2
        go_ret
        exact ⟨_, cq3, by (with_reducible repeat (first | apply Kd.uQ | apply Kd.uR | apply Kd.uV)); exact HO_3.out, cq2, cq5, cq14⟩
      rw [if_pos c19] at H
      have c19b0 := decide_eq_true c19
      have c19b1 : decide (x3_1.length < 17) = true := decide_eq_true (by omega)
      clear c19
      replace H := Option.bind_eq_some_iff.mp H
      obtain ⟨⟨t405, t406, t407, t408, t409, t410, t411, t412⟩, A200, H⟩ := H
      try dsimp only at H
      have A20 := Aside0.mk A200
      clear A200
      obtain ⟨LMc21, H⟩ := ifL H
      obtain ⟨y414, hy414⟩ : ∃ y_ : List (S72), y_ = (x3_1 ++ [(⟨20, (⟨t405, t406, t407, t408, t409, t410⟩ : S37)⟩ : S72)]) := ⟨_, rfl⟩
      replace H : (spec_l5Any.l0 k1 y414 s0_0 t411 t412) = some (r1, r2, r3) := rpl hy414 H
      have Ny414 := Aside0.mk hy414
      clear hy414
      have H' := Aside0.mk H
      clear H
      obtain ⟨Ao22, co22, eo22⟩ := Kd.uY HO_3.out
      subst eo22
      go_wp2_with (first | ((with_reducible refine uF (f := 85) rfl ?_); refine uX (some 26) Try.func85 #[.pointer (some ⟨g, 0, none⟩)] ?_; (with_reducible refine (spec_l3Op.calls g s0_0 x1001_1 x1002_1 t405 t406 t407 t408 t409 t410 t411 t412 w0 _ ?side1 ?side2 A20.out).mono ?_); (case side1 => exact cq2); (case side2 => exact cq5); rintro e w23 ⟨rfl, hi, hb, hk⟩; refine ⟨_, rfl, ?_⟩; replace HO_3 := Aside0.mk (Kd.uN (Kd.R_keep (IsS112.apart (show IsS112 w0 _ g s0_0 x1001_1 x1002_1 from by repeat (first | (with_reducible first | exact HI0.out | apply IsS112.alloc | apply IsS112.drewN | apply IsS112.drew | apply IsS112.set_1 | apply IsS112.set_2) | exact HI0.out)) (uZ HO_3.out) (by decide)) hk (fun _ h => h.2)) (fun _ h => h.1)); replace HK := vJ HK hk; replace HB := Aside0.mk (hb); replace HI0 := Aside0.mk (hi); (try clear hb); (try clear hk); (try clear hi)) | ((with_reducible refine uJ (N := 4) rfl ?_); refine bxe 4 #[.int .i64 0, .int .i64 0, .int .i64 0, .int .i64 0, .int .i64 0, .int .i64 0] 37 ?_; intro gb413 hg w24 hbox hb; have BK413 := Aside0.mk (hbox); have GW413 := tKGe HK hg; have GE413 := tKW HW0 HK hg; have NB0_413 := Aside0.mk ((by rw [hg]; exact Nat.ne_of_lt (IsS112.lt (show IsS112 w0 _ g s0_0 t411 t412 from by repeat (first | (with_reducible first | exact HI0.out | apply IsS112.alloc | apply IsS112.drewN | apply IsS112.drew | apply IsS112.set_1 | apply IsS112.set_2) | exact HI0.out))) : g ≠ gb413)); have NB413_0 := Aside0.mk ((by rw [hg]; exact Nat.ne_of_gt (IsS112.lt (show IsS112 w0 _ g s0_0 t411 t412 from by repeat (first | (with_reducible first | exact HI0.out | apply IsS112.alloc | apply IsS112.drewN | apply IsS112.drew | apply IsS112.set_1 | apply IsS112.set_2) | exact HI0.out))) : gb413 ≠ g)); replace HO_3 := Kd.tR HO_3 hb; replace HI0 := Aside0.mk (IsS112.below cq2 hb); replace HK := vJ HK (vP.of_below hb g none); replace HB := tBel1 HB hb; clear hb hbox hg; have hnb25 := NB413_0.out; have hnc25 := NB0_413.out; obtain ⟨hcz26_0, hcz26_1, hcz26_2, hcz26_3, hcz26_4, hcz26_5, hfz26_0, hfz26_1, hfz26_2, hfz26_3, hfz26_4, hfz26_5⟩ := cz6 BK413) | ((with_reducible refine gate_builtin (b := .append) (xs := #[.tmp 27, .tmp 30]) rfl ?_); at_builtin; refine Kd.R_append k72 w.heap.size rfl (.tmp 27) (.tmp 30) 58 72 (.agg #[(.int .i64 0), (.int .i64 0), (.int .i64 0), (.int .i64 0), (.int .i64 0), (.int .i64 0), (.int .i64 0)]) 56 rfl Try.underlying58 info72 rfl (by decide) (by omega) (.slice Ao22 x3_1.length co22) x3_1 (⟨20, (⟨t405, t406, t407, t408, t409, t410⟩ : S37)⟩ : S72) [.int .i64 20, .int .i64 t405, .int .i64 t406, .int .i64 t407, .int .i64 t408, .int .i64 t409, .int .i64 t410] (fun _ => True) (fun _ => False) rfl (by first | (go_simp; done) | (go_simp; rfl)) ?aP (fun _ hk => hk.elim) ?aF ?aO (Below.refl _ _) ?aS ?aL ?_; (case aP => exact k72_mkM _ _ _ (⟨20, (⟨t405, t406, t407, t408, t409, t410⟩ : S37)⟩ : S72)); (case aF => exact (fun _ _ => trivial)); (case aO => exact (by (with_reducible repeat (first | apply Kd.uQ | apply Kd.uR | apply Kd.uV)); exact Kd.uN (Kd.uM (p := ⟨gb413, 5, none⟩) (Kd.uM (p := ⟨gb413, 4, none⟩) (Kd.uM (p := ⟨gb413, 3, none⟩) (Kd.uM (p := ⟨gb413, 2, none⟩) (Kd.uM (p := ⟨gb413, 1, none⟩) (Kd.uM (p := ⟨gb413, 0, none⟩) (Kd.vG HO_3.out BK413.out (by decide)) (fun _ hk => hk.2) (.int .i64 t405)) (fun _ hk => hk.2) (.int .i64 t406)) (fun _ hk => hk.2) (.int .i64 t407)) (fun _ hk => hk.2) (.int .i64 t408)) (fun _ hk => hk.2) (.int .i64 t409)) (fun _ hk => hk.2) (.int .i64 t410)) (fun _ hk => trivial))); (case aS => exact cq65); (case aL => have := LMc21.out; omega); intro v415 w27 ho hb hg hat; rw [← Ny414.out] at ho; have n0_ := IsS112.tgr HI0 hg (IsS112.own_ne HI0.out HO_3.out (by decide)); have n1_ := tGrP BK413 #[.int .i64 t405, .int .i64 t406, .int .i64 t407, .int .i64 t408, .int .i64 t409, .int .i64 t410] hg (Kd.R_ne HO_3.out BK413.out (by decide)); have n2_ := Aside0.mk (below_weaken cq1 HL.out hb); have n3_ := Aside0.mk (vP.trans cq8 (vP.of_grown hg g) (Kd.R_base2 HO_3.out)); have n4_ := Aside0.mk (ho); clear HI0; clear BK413; clear HB; clear HK; clear HO_3; have HI0 := n0_; have BK413 := n1_; have HB := n2_; have HK := n3_; have HO416 := n4_; clear n0_ n1_ n2_ n3_ n4_; clear ho hb hg hat))
      go_roundg k1
      case measure => have := HK1.out; omega
      case rel => exact ⟨(y414), (t411), (t412), H', ⟨by have := HK1.out; omega⟩, ⟨by (with_reducible repeat (first | apply Kd.uQ | apply Kd.uR | apply Kd.uV)); exact HO416.out⟩, ⟨by repeat (first | (with_reducible first | exact HI0.out | apply IsS112.alloc | apply IsS112.drewN | apply IsS112.drew | apply IsS112.set_1 | apply IsS112.set_2 | refine IsS112.far ?_ NB0_413.out _) | exact HI0.out)⟩, ⟨cq8⟩, ⟨cq1⟩⟩

/-! ### spec_l5Copy: function 77 -/
def spec_l5Copy.f (l0 : List (S72)) : Option ((List (S72))) := (some (([] : List (S72)) : List (S72))).bind fun y417 => (if y417.length + l0.length < 2513169434916 then (some (y417 ++ l0)) else (none))
set_option maxHeartbeats 8000000 in
set_option maxRecDepth 100000 in
theorem spec_l5Copy.calls (A0 : Option Addr) (c0 : Nat) (l0 : List (S72)) (r : List (S72)) (w : World) (hr0 : Kd.C k72 w A0 l0.length l0) (hc0 : l0.length ≤ c0) (h : spec_l5Copy.f l0 = some r) :
    Calls Try.prog 77 #[.slice A0 l0.length c0] w fun e w' => ∃ v0_ : Value, e = .returned (v0_) ∧ Kd.R k72 72 w' w.heap.size (fun _ => True) v0_ r ∧ Below w.heap.size w w' := by
  have HR0 := Aside0.mk hr0
  have HC0 := Aside0.mk hc0
  clear hr0 hc0
  have HB := Aside0.mk (Below.refl w.heap.size w)
  have H : ((some (([] : List (S72)) : List (S72))).bind fun y417 => (if y417.length + l0.length < 2513169434916 then (some (y417 ++ l0)) else (none))) = some r := h
  clear h
  obtain ⟨y417, hy417⟩ : ∃ y_ : List (S72), y_ = (([] : List (S72))) := ⟨_, rfl⟩
  replace H : (if y417.length + l0.length < 2513169434916 then (some (y417 ++ l0)) else (none)) = some r := rpl hy417 H
  have Ny417 := Aside0.mk hy417
  clear hy417
  obtain ⟨LMc2, H⟩ := ifL H
  obtain ⟨y420, hy420⟩ : ∃ y_ : List (S72), y_ = (y417 ++ l0) := ⟨_, rfl⟩
  replace H : (some y420) = some r := rpl hy420 H
  have Ny420 := Aside0.mk hy420
  clear hy420
  obtain rfl := Option.some.inj H
  go_enter Try.func77, Try.ntmps77
  go_wp2_with (first | ((with_reducible refine uJ (N := 3) rfl ?_); refine Kd.R_lit k72 _ 72 ?hg (N := 3) ?hd (xs := ([] : List (S72))) (inner := []) (ok := fun _ => True) (okp := fun _ => True) ?hr ?hp (fun _ hk => hk) trivial (Below.refl _ _) (Nat.le_refl _) (by simp) ?_; (case hd => rfl); (case hg => rfl); (case hr => first | (go_simp; done) | (go_simp; rfl)); (case hp => exact (vN.none _ _)); intro v418 w3 ho4 hb hg_ hnew_; clear hg_ hnew_; (first | rw [← Ny417.out] at ho4 | (simp only [Int.reduceToNat] at ho4; rw [← Ny417.out] at ho4)); have HO419 := Aside0.mk (Kd.uS ho4 (uO cq9)); replace HB := vB HB hb; clear hb ho4) | ((with_reducible refine gate_builtin (b := .append) (xs := #[.tmp 3, .tmp 4]) rfl ?_); at_builtin; refine Kd.R_append_rows k72 (w0 := w) w.heap.size rfl (.tmp 3) (.tmp 4) 58 72 (.agg #[(.int .i64 0), (.int .i64 0), (.int .i64 0), (.int .i64 0), (.int .i64 0), (.int .i64 0), (.int .i64 0)]) 56 rfl Try.underlying58 info72 rfl (by decide) (by omega) v418 y417 l0 _ _ _ (fun _ => True) (fun _ => False) rfl rfl ?aO ?aR (fun _ _ h => h) (fun _ h => h.elim) ?aF ?aB ?aS ?aL ?_; (case aR => exact cq7); (case aB => exact cq101); (case aF => exact (fun _ _ => trivial)); (case aO => exact (uZ HO419.out)); (case aS => exact cq88); (case aL => have := LMc2.out; omega); intro v421 w5 ho hb hg hat; rw [← Ny420.out] at ho; have n0_ := Aside0.mk (hb); have n1_ := Aside0.mk (ho); clear HB; clear HO419; have HB := n0_; have HO422 := n1_; clear n0_ n1_; clear ho hb hg hat))
  go_ret
  exact ⟨_, cq3, by (with_reducible repeat (first | apply Kd.uQ | apply Kd.uR | apply Kd.uV)); exact HO422.out, cq9⟩

/-! ### spec_l5Two: function 72 -/
def spec_l5Two.l0 : Nat → List (S72) → List (S72) → Int → List Int → Int → Int → Option ((List (S72)) × (List (S72)))
  | 0, _, _, _, _, _, _ => none
  | k + 1, x5, x6, x7, x427000, x427001, x427002 => if x7 > 0 then ((spec_l3Op.f x427000 x427001 x427002).bind fun bt453 => (if x6.length < 2513169434916 then (spec_l5Two.l0 k x5 (x6 ++ [(⟨9, (⟨bt453.1, bt453.2.1, bt453.2.2.1, bt453.2.2.2.1, bt453.2.2.2.2.1, bt453.2.2.2.2.2.1⟩ : S37)⟩ : S72)]) (wrap64 (x7 - 1)) x427000 bt453.2.2.2.2.2.2.1 bt453.2.2.2.2.2.2.2) else (none))) else (some (x5, x6))
def spec_l5Two.f (k : Nat) (l0 : List Int) : Option ((List (S72)) × (List (S72))) := (spec_l1New.f k l0).bind fun bt423 => ((spec_l5Any.f k bt423.1 bt423.2.1 bt423.2.2).bind fun bt427 => ((spec_l1Once.f bt423.1 bt427.2.1 bt427.2.2 3).bind fun bt432 => (if bt432.1 = true then ((spec_l5Any.f k bt423.1 bt432.2.1 bt432.2.2).bind fun bt435 => (some (bt427.1, bt435.1))) else ((spec_l1Below.f bt423.1 bt432.2.1 bt432.2.2 (wrap64 ((bt427.1.length : Int) + 1))).bind fun bt440 => (if 0 ≤ bt440.1 then (if bt440.1 ≤ (bt427.1.length : Int) then ((spec_l5Copy.f (bt427.1.take (bt440.1 : Int).toNat)).bind fun t447 => ((spec_l1Below.f bt423.1 bt440.2.1 bt440.2.2 3).bind fun bt450 => (spec_l5Two.l0 k bt427.1 t447 bt450.1 bt423.1 bt450.2.1 bt450.2.2))) else (none)) else (none))))))
theorem spec_l5Two.mono_l : ∀ k, (∀ y0 y1 y2 y3 y4 y5, uI (spec_l5Two.l0 k y0 y1 y2 y3 y4 y5) (spec_l5Two.l0 (k + 1) y0 y1 y2 y3 y4 y5))
  | 0 => fun _ _ _ _ _ _ r h => by simp [spec_l5Two.l0] at h
  | k + 1 => by
    have ih0 := spec_l5Two.mono_l k
    intro y0 y1 y2 y3 y4 y5
    unfold spec_l5Two.l0
    repeat' first
    | (with_reducible exact ih0 _ _ _ _ _ _)
    | (with_reducible exact spec_l1New.mono _ _)
    | (with_reducible exact spec_l5Any.mono _ _ _ _)
    | (with_reducible exact uI.refl _)
    | (with_reducible exact uI.none _)
    | (with_reducible refine uI.ite ?_ ?_)
    | (with_reducible refine uI.bind ?_ (fun _ => ?_))
    | exact ih0 _ _ _ _ _ _
    | exact uI.none _
    | refine uI.ite ?_ ?_
    | refine uI.bind ?_ (fun _ => ?_)
theorem spec_l5Two.mono : ∀ a0 k, uI (spec_l5Two.f k a0) (spec_l5Two.f (k + 1) a0) := by
  intro a0 k
  have ih0 := spec_l5Two.mono_l k
  unfold spec_l5Two.f
  repeat' first
      | (with_reducible exact ih0 _ _ _ _ _ _)
      | (with_reducible exact spec_l1New.mono _ _)
      | (with_reducible exact spec_l5Any.mono _ _ _ _)
      | (with_reducible exact uI.refl _)
      | (with_reducible exact uI.none _)
      | (with_reducible refine uI.ite ?_ ?_)
      | (with_reducible refine uI.bind ?_ (fun _ => ?_))
      | exact ih0 _ _ _ _ _ _
      | exact uI.none _
      | refine uI.ite ?_ ?_
      | refine uI.bind ?_ (fun _ => ?_)
set_option maxHeartbeats 8000000 in
set_option maxRecDepth 100000 in
theorem spec_l5Two.calls (k : Nat) (A0 : Option Addr) (c0 : Nat) (l0 : List Int) (r1 : List (S72)) (r2 : List (S72)) (w : World) (hr0 : Kd.C (Kd.int .u8) w A0 l0.length l0) (hc0 : l0.length ≤ c0) (h : spec_l5Two.f k l0 = some (r1, r2)) :
    Calls Try.prog 72 #[.slice A0 l0.length c0] w fun e w' => ∃ v0_ v1_ : Value, e = .returned (.tuple #[v0_, v1_]) ∧ Kd.R k72 72 w' w.heap.size (fun k_ => some k_ ≠ (v1_ : Value).ownBlock) v0_ r1 ∧ Kd.R k72 72 w' w.heap.size (fun k_ => some k_ ≠ (v0_ : Value).ownBlock) v1_ r2 ∧ Below w.heap.size w w' := by
  have hu37 := Try.underlying37
  have hu72 := Try.underlying72
  have HR0 := Aside0.mk hr0
  have HC0 := Aside0.mk hc0
  clear hr0 hc0
  have HB := Aside0.mk (Below.refl w.heap.size w)
  have H : ((spec_l1New.f k l0).bind fun bt423 => ((spec_l5Any.f k bt423.1 bt423.2.1 bt423.2.2).bind fun bt427 => ((spec_l1Once.f bt423.1 bt427.2.1 bt427.2.2 3).bind fun bt432 => (if bt432.1 = true then ((spec_l5Any.f k bt423.1 bt432.2.1 bt432.2.2).bind fun bt435 => (some (bt427.1, bt435.1))) else ((spec_l1Below.f bt423.1 bt432.2.1 bt432.2.2 (wrap64 ((bt427.1.length : Int) + 1))).bind fun bt440 => (if 0 ≤ bt440.1 then (if bt440.1 ≤ (bt427.1.length : Int) then ((spec_l5Copy.f (bt427.1.take (bt440.1 : Int).toNat)).bind fun t447 => ((spec_l1Below.f bt423.1 bt440.2.1 bt440.2.2 3).bind fun bt450 => (spec_l5Two.l0 k bt427.1 t447 bt450.1 bt423.1 bt450.2.1 bt450.2.2))) else (none)) else (none))))))) = some (r1, r2) := h
  clear h
  replace H := Option.bind_eq_some_iff.mp H
  obtain ⟨⟨t423, t424, t425⟩, A20, H⟩ := H
  try dsimp only at H
  have A2 := Aside0.mk A20
  clear A20
  replace H := Option.bind_eq_some_iff.mp H
  obtain ⟨⟨t427, t430, t431⟩, A30, H⟩ := H
  try dsimp only at H
  have A3 := Aside0.mk A30
  clear A30
  replace H := Option.bind_eq_some_iff.mp H
  obtain ⟨⟨t432, t433, t434⟩, A40, H⟩ := H
  try dsimp only at H
  have A4 := Aside0.mk A40
  clear A40
  by_cases c5 : t432 = true
  · subst c5
    try rw [if_pos rfl] at H
    replace H := Option.bind_eq_some_iff.mp H
    obtain ⟨⟨t435, t438, t439⟩, A60, H⟩ := H
    try dsimp only at H
    have A6 := Aside0.mk A60
    clear A60
    simp only [Option.some.injEq, Prod.mk.injEq] at H
    obtain ⟨rfl, rfl⟩ := H
    go_enter Try.func72, Try.ntmps72
    go_wp2_with (first | ((with_reducible refine uF (f := 58) rfl ?_); refine uX (some 10) Try.func58 #[.slice A0 l0.length c0] ?_; (with_reducible refine (spec_l1New.calls k _ _ l0 t423 t424 t425 w _ ?side1 ?side2 ?side3 A2.out).mono ?_); (case side1 => exact cq9); (case side2 => exact HR0.out); (case side3 => exact HC0.out); rintro e w7 ⟨g426, rfl, hi, hb, hb2⟩; refine ⟨_, rfl, ?_⟩; have HI426 := Aside0.mk (hi); replace HB := Aside0.mk (hb); (try clear hb); (try clear hb2); (try clear hi)) | ((with_reducible refine uF (f := 73) rfl ?_); refine uX (some 12) Try.func73 #[.pointer (some ⟨g426, 0, none⟩)] ?_; (with_reducible refine (spec_l5Any.calls k g426 t423 t424 t425 t427 t430 t431 w _ ?side1 ?side2 A3.out).mono ?_); (case side1 => exact cq22); (case side2 => exact cq16); rintro e w8 ⟨v428, rfl, ho0, hi, hb, hk⟩; refine ⟨_, rfl, ?_⟩; have HO429 := Aside0.mk (Kd.uS ho0 (uO cq16)); replace HB := Aside0.mk (hb); replace HI426 := Aside0.mk (hi); (try clear hb); (try clear hk); (try clear hi); (try clear ho0)) | ((with_reducible refine uF (f := 88) rfl ?_); refine uX (some 14) Try.func88 #[.pointer (some ⟨g426, 0, none⟩), .int .i64 3] ?_; (with_reducible refine (spec_l1Once.calls g426 t423 t430 t431 3 true t433 t434 w _ ?side1 ?side2 A4.out).mono ?_); (case side1 => exact cq22); (case side2 => exact cq16); rintro e w9 ⟨rfl, hi, hb, hk⟩; refine ⟨_, rfl, ?_⟩; replace HO429 := Aside0.mk (Kd.uN (Kd.R_keep (IsS112.apart (show IsS112 w _ g426 t423 t430 t431 from by repeat (first | (with_reducible first | exact HI426.out | apply IsS112.alloc | apply IsS112.drewN | apply IsS112.drew | apply IsS112.set_1 | apply IsS112.set_2) | exact HI426.out)) (uZ HO429.out) (by decide)) hk (fun _ h => h.2)) (fun _ h => h.1)); replace HB := Aside0.mk (hb); replace HI426 := Aside0.mk (hi); (try clear hb); (try clear hk); (try clear hi)) | ((with_reducible refine uF (f := 73) rfl ?_); refine uX (some 17) Try.func73 #[.pointer (some ⟨g426, 0, none⟩)] ?_; (with_reducible refine (spec_l5Any.calls k g426 t423 t433 t434 t435 t438 t439 w _ ?side1 ?side2 A6.out).mono ?_); (case side1 => exact cq22); (case side2 => exact cq16); rintro e w10 ⟨v436, rfl, ho0, hi, hb, hk⟩; refine ⟨_, rfl, ?_⟩; have HO437 := Aside0.mk (Kd.uS (Kd.vT ho0 (Kd.R_lt (uZ HO429.out))) (uO cq16)); replace HO429 := Aside0.mk (Kd.uN (Kd.R_told (Kd.R_oldK (IsS112.apart (show IsS112 w _ g426 t423 t433 t434 from by repeat (first | (with_reducible first | exact HI426.out | apply IsS112.alloc | apply IsS112.drewN | apply IsS112.drew | apply IsS112.set_1 | apply IsS112.set_2) | exact HI426.out)) (uZ HO429.out) (by decide)) hk) (Kd.vS ho0)) (fun _ h_ => h_.1)); replace HB := Aside0.mk (hb); replace HI426 := Aside0.mk (hi); (try clear hb); (try clear hk); (try clear hi); (try clear ho0)))
    go_ret2
    exact ⟨_, _, cq3, by (with_reducible repeat (first | apply Kd.uQ | apply Kd.uR | apply Kd.uV)); exact Kd.uN HO429.out (fun _ hk => hk.2), by (with_reducible repeat (first | apply Kd.uQ | apply Kd.uR | apply Kd.uV)); exact Kd.uN HO437.out (fun _ hk => hk.2), cq16⟩
  replace c5 := Bool.eq_false_iff.mpr c5
  subst c5
  try rw [if_neg (show ¬ (false = true) by decide)] at H
  replace H := Option.bind_eq_some_iff.mp H
  obtain ⟨⟨t440, t441, t442⟩, A110, H⟩ := H
  try dsimp only at H
  have A11 := Aside0.mk A110
  clear A110
  by_cases c12 : 0 ≤ t440
  rotate_left
  · rw [if_neg c12] at H
    exact absurd H (by simp)
  rw [if_pos c12] at H
  have c12b0 := eq_true c12
  have c12b1 := decide_eq_true c12
  clear c12
  by_cases c13 : t440 ≤ (t427.length : Int)
  rotate_left
  · rw [if_neg c13] at H
    exact absurd H (by simp)
  rw [if_pos c13] at H
  have c13b0 := eq_true c13
  have c13b1 := decide_eq_true c13
  clear c13
  obtain ⟨y443, hy443⟩ : ∃ y_ : List (S72), y_ = (t427.take (t440 : Int).toNat) := ⟨_, rfl⟩
  replace H : ((spec_l5Copy.f y443).bind fun t447 => ((spec_l1Below.f t423 t441 t442 3).bind fun bt450 => (spec_l5Two.l0 k t427 t447 bt450.1 t423 bt450.2.1 bt450.2.2))) = some (r1, r2) := rpl hy443 H
  have Ny443 := Aside0.mk hy443
  clear hy443
  replace H := Option.bind_eq_some_iff.mp H
  obtain ⟨t447, A140, H⟩ := H
  try dsimp only at H
  have A14 := Aside0.mk A140
  clear A140
  replace H := Option.bind_eq_some_iff.mp H
  obtain ⟨⟨t450, t451, t452⟩, A150, H⟩ := H
  try dsimp only at H
  have A15 := Aside0.mk A150
  clear A150
  have H' := Aside0.mk H
  clear H
  go_enter Try.func72, Try.ntmps72
  go_wp2_with (first | ((with_reducible refine uF (f := 58) rfl ?_); refine uX (some 10) Try.func58 #[.slice A0 l0.length c0] ?_; (with_reducible refine (spec_l1New.calls k _ _ l0 t423 t424 t425 w _ ?side1 ?side2 ?side3 A2.out).mono ?_); (case side1 => exact cq9); (case side2 => exact HR0.out); (case side3 => exact HC0.out); rintro e w16 ⟨g426, rfl, hi, hb, hb2⟩; refine ⟨_, rfl, ?_⟩; have HI426 := Aside0.mk (hi); replace HB := Aside0.mk (hb); (try clear hb); (try clear hb2); (try clear hi)) | ((with_reducible refine uF (f := 73) rfl ?_); refine uX (some 12) Try.func73 #[.pointer (some ⟨g426, 0, none⟩)] ?_; (with_reducible refine (spec_l5Any.calls k g426 t423 t424 t425 t427 t430 t431 w _ ?side1 ?side2 A3.out).mono ?_); (case side1 => exact cq22); (case side2 => exact cq16); rintro e w17 ⟨v428, rfl, ho0, hi, hb, hk⟩; refine ⟨_, rfl, ?_⟩; have HO429 := Aside0.mk (Kd.uS ho0 (uO cq16)); replace HB := Aside0.mk (hb); replace HI426 := Aside0.mk (hi); (try clear hb); (try clear hk); (try clear hi); (try clear ho0)) | ((with_reducible refine uF (f := 88) rfl ?_); refine uX (some 14) Try.func88 #[.pointer (some ⟨g426, 0, none⟩), .int .i64 3] ?_; (with_reducible refine (spec_l1Once.calls g426 t423 t430 t431 3 false t433 t434 w _ ?side1 ?side2 A4.out).mono ?_); (case side1 => exact cq22); (case side2 => exact cq16); rintro e w18 ⟨rfl, hi, hb, hk⟩; refine ⟨_, rfl, ?_⟩; replace HO429 := Aside0.mk (Kd.uN (Kd.R_keep (IsS112.apart (show IsS112 w _ g426 t423 t430 t431 from by repeat (first | (with_reducible first | exact HI426.out | apply IsS112.alloc | apply IsS112.drewN | apply IsS112.drew | apply IsS112.set_1 | apply IsS112.set_2) | exact HI426.out)) (uZ HO429.out) (by decide)) hk (fun _ h => h.2)) (fun _ h => h.1)); replace HB := Aside0.mk (hb); replace HI426 := Aside0.mk (hi); (try clear hb); (try clear hk); (try clear hi); obtain ⟨Ao19, co19, eo19⟩ := Kd.uY HO429.out; subst eo19) | ((with_reducible refine uF (f := 74) rfl ?_); refine uX (some 23) Try.func74 #[.pointer (some ⟨g426, 0, none⟩), .int .i64 (wrap64 ((t427.length : Int) + 1))] ?_; (with_reducible refine (spec_l1Below.calls g426 t423 t433 t434 (wrap64 ((t427.length : Int) + 1)) t440 t441 t442 w _ ?side1 ?side2 A11.out).mono ?_); (case side1 => exact cq22); (case side2 => exact cq16); rintro e w20 ⟨rfl, hi, hb, hk⟩; refine ⟨_, rfl, ?_⟩; replace HO429 := Aside0.mk (Kd.uN (Kd.R_keep (IsS112.apart (show IsS112 w _ g426 t423 t433 t434 from by repeat (first | (with_reducible first | exact HI426.out | apply IsS112.alloc | apply IsS112.drewN | apply IsS112.drew | apply IsS112.set_1 | apply IsS112.set_2) | exact HI426.out)) (uZ HO429.out) (by decide)) hk (fun _ h => h.2)) (fun _ h => h.1)); replace HB := Aside0.mk (hb); replace HI426 := Aside0.mk (hi); (try clear hb); (try clear hk); (try clear hi); have q21 : (t440 : Int) ≤ ((t427.length : Int) : Int) := of_decide_eq_true cq12; obtain ⟨i021, hi021, _, hsz21, _⟩ := info_parts info72; have hroom21 : t427.length ≤ co19 := (Kd.uK HO429.out).2.1; have hC21 : Kd.C k72 _ Ao19 t427.length t427 := (Kd.uK HO429.out).2.2; have hcut21 := cut_to (P := Try.prog) 58 72 .i64 Try.underlying58 hi021 Ao19 t427.length co19 t440 (of_decide_eq_true cq12) q21 hroom21; have hr21 := Kd.C_take (m := (t440 : Int).toNat) hC21 (by omega); have hy21 : y443.length = (t440 : Int).toNat := (by rw [Ny443.out, List.length_take]; omega); rw [← Ny443.out] at hr21; rw [← hy21] at hcut21; have HR446 := Aside0.mk hr21; have HC446 := Aside0.mk (show y443.length ≤ co19 from by omega); clear hr21 hC21 hroom21 hi021 hsz21; have KY21 := Aside0.mk hy21; clear hy21; have KL21 := Aside0.mk (show (t440 : Int).toNat ≤ t427.length from by omega); replace q21 := eq_true q21) | ((with_reducible refine uF (f := 77) rfl ?_); refine uX (some 25) Try.func77 #[.slice Ao19 y443.length co19] ?_; (with_reducible refine (spec_l5Copy.calls _ _ y443 t447 _ ?side1 ?side2 A14.out).mono ?_); (case side1 => repeat (first | exact (by repeat (first | (with_reducible exact HR446.out) | (with_reducible refine Kd.vW ?_ _) | (with_reducible refine Kd.vV ?_ _) | (with_reducible refine Kd.C_drew ?_) | exact HR446.out)) | (with_reducible refine Kd.vW ?_ _) | (with_reducible refine Kd.vV ?_ _) | (with_reducible refine Kd.C_drew ?_))); (case side2 => exact HC446.out); rintro e w22 ⟨v448, rfl, ho0, hb⟩; refine ⟨_, rfl, ?_⟩; have HO449 := Aside0.mk (Kd.uS (Kd.vT ho0 (Kd.R_lt (uZ HO429.out))) (uO cq16)); replace HO429 := Aside0.mk (Kd.vI (uZ HO429.out) (Kd.vS ho0) hb); replace HI426 := Aside0.mk (IsS112.below cq22 hb); replace HR446 := Aside0.mk (Kd.vC (by repeat (first | (with_reducible exact HR446.out) | (with_reducible refine Kd.vW ?_ _) | (with_reducible refine Kd.vV ?_ _) | (with_reducible refine Kd.C_drew ?_) | exact HR446.out)) hb); replace HB := tBel2 HB hb; (try clear hb); (try clear ho0)) | ((with_reducible refine uF (f := 74) rfl ?_); refine uX (some 27) Try.func74 #[.pointer (some ⟨g426, 0, none⟩), .int .i64 3] ?_; (with_reducible refine (spec_l1Below.calls g426 t423 t441 t442 3 t450 t451 t452 w _ ?side1 ?side2 A15.out).mono ?_); (case side1 => exact cq22); (case side2 => exact cq16); rintro e w23 ⟨rfl, hi, hb, hk⟩; refine ⟨_, rfl, ?_⟩; replace HO429 := Aside0.mk (Kd.uN (Kd.R_keep (IsS112.apart (show IsS112 w _ g426 t423 t441 t442 from by repeat (first | (with_reducible first | exact HI426.out | apply IsS112.alloc | apply IsS112.drewN | apply IsS112.drew | apply IsS112.set_1 | apply IsS112.set_2) | exact HI426.out)) (uZ HO429.out) (by decide)) hk (fun _ h => h.2)) (fun _ h => h.1)); replace HO449 := Aside0.mk (Kd.uN (Kd.R_keep (IsS112.apart (show IsS112 w _ g426 t423 t441 t442 from by repeat (first | (with_reducible first | exact HI426.out | apply IsS112.alloc | apply IsS112.drewN | apply IsS112.drew | apply IsS112.set_1 | apply IsS112.set_2) | exact HI426.out)) (uZ HO449.out) (by decide)) hk (fun _ h => h.2)) (fun _ h => h.1)); replace HB := Aside0.mk (hb); replace HI426 := Aside0.mk (hi); (try clear hb); (try clear hk); (try clear hi)))
  go_loopg [6, 7] k (fun kq v6 v7 w' => ∃ (x6_1 : List (S72)) (x7_1 : Int) (x427001_1 : Int) (x427002_1 : Int), v7 = .int .i64 x7_1 ∧ Aside0 (spec_l5Two.l0 kq t427 x6_1 x7_1 t423 x427001_1 x427002_1 = some (r1, r2)) ∧ Aside0 (kq ≤ k) ∧ Aside0 (Kd.R k72 72 w' w.heap.size (fun k_ => some k_ ≠ (v6 : Value).ownBlock) (.slice Ao19 t427.length co19) t427) ∧ Aside0 (Kd.R k72 72 w' w.heap.size (fun k_ => some k_ ≠ ((.slice Ao19 t427.length co19) : Value).ownBlock) v6 x6_1) ∧ Aside0 (IsS112 w w' g426 t423 x427001_1 x427002_1) ∧ Aside0 (Below w.heap.size w w'))
  case atStart => exact ⟨(t447), (t450), (t451), (t452), cq15, H', ⟨Nat.le_refl _⟩, ⟨by (with_reducible repeat (first | apply Kd.uQ | apply Kd.uR | apply Kd.uV)); exact Kd.uN HO429.out (fun _ hk => hk.2)⟩, ⟨by (with_reducible repeat (first | apply Kd.uQ | apply Kd.uR | apply Kd.uV)); exact Kd.uN HO449.out (fun _ hk => hk.2)⟩, ⟨cq22⟩, ⟨cq16⟩⟩
  case round =>
    clear H'
    try clear c5
    try clear c12
    try clear c12b0
    try clear c12b1
    try clear c13
    try clear c13b0
    try clear c13b1
    try clear q21
    try clear q21
    obtain ⟨x6_1, x7_1, x427001_1, x427002_1, rfl, HA, HK1, HO_5, HO_6, HI426, HB⟩ := hrel
    cases gk with
    | zero => exact absurd HA.out (by simp [spec_l5Two.l0])
    | succ k1 =>
      have H := HA.out
      clear HA
      simp only [spec_l5Two.l0] at H
      by_cases c24 : x7_1 > 0
      rotate_left
      · rw [if_neg c24] at H
        have c24b0 := decide_eq_false c24
        clear c24
        simp only [Option.some.injEq, Prod.mk.injEq] at H
        obtain ⟨rfl, rfl⟩ := H
        go_wp2
        go_ret2
        exact ⟨_, _, cq3, by (with_reducible repeat (first | apply Kd.uQ | apply Kd.uR | apply Kd.uV)); exact HO_5.out, by (with_reducible repeat (first | apply Kd.uQ | apply Kd.uR | apply Kd.uV)); exact HO_6.out, cq16⟩
      rw [if_pos c24] at H
      have c24b0 := decide_eq_true c24
      clear c24
      replace H := Option.bind_eq_some_iff.mp H
      obtain ⟨⟨t453, t454, t455, t456, t457, t458, t459, t460⟩, A250, H⟩ := H
      try dsimp only at H
      have A25 := Aside0.mk A250
      clear A250
      obtain ⟨LMc26, H⟩ := ifL H
      obtain ⟨y462, hy462⟩ : ∃ y_ : List (S72), y_ = (x6_1 ++ [(⟨9, (⟨t453, t454, t455, t456, t457, t458⟩ : S37)⟩ : S72)]) := ⟨_, rfl⟩
      replace H : (spec_l5Two.l0 k1 t427 y462 (wrap64 (x7_1 - 1)) t423 t459 t460) = some (r1, r2) := rpl hy462 H
      have Ny462 := Aside0.mk hy462
      clear hy462
      have H' := Aside0.mk H
      clear H
      go_wp2_with (first | ((with_reducible refine uF (f := 85) rfl ?_); refine uX (some 33) Try.func85 #[.pointer (some ⟨g426, 0, none⟩)] ?_; (with_reducible refine (spec_l3Op.calls g426 t423 x427001_1 x427002_1 t453 t454 t455 t456 t457 t458 t459 t460 w _ ?side1 ?side2 A25.out).mono ?_); (case side1 => exact cq22); (case side2 => exact cq16); rintro e w27 ⟨rfl, hi, hb, hk⟩; refine ⟨_, rfl, ?_⟩; replace HO_5 := Aside0.mk (Kd.uN (Kd.R_keep (IsS112.apart (show IsS112 w _ g426 t423 x427001_1 x427002_1 from by repeat (first | (with_reducible first | exact HI426.out | apply IsS112.alloc | apply IsS112.drewN | apply IsS112.drew | apply IsS112.set_1 | apply IsS112.set_2) | exact HI426.out)) (uZ HO_5.out) (by decide)) hk (fun _ h => h.2)) (fun _ h => h.1)); replace HO_6 := Aside0.mk (Kd.uN (Kd.R_keep (IsS112.apart (show IsS112 w _ g426 t423 x427001_1 x427002_1 from by repeat (first | (with_reducible first | exact HI426.out | apply IsS112.alloc | apply IsS112.drewN | apply IsS112.drew | apply IsS112.set_1 | apply IsS112.set_2) | exact HI426.out)) (uZ HO_6.out) (by decide)) hk (fun _ h => h.2)) (fun _ h => h.1)); replace HB := Aside0.mk (hb); replace HI426 := Aside0.mk (hi); (try clear hb); (try clear hk); (try clear hi)) | ((with_reducible refine uJ (N := 8) rfl ?_); refine bxe 8 #[.int .i64 0, .int .i64 0, .int .i64 0, .int .i64 0, .int .i64 0, .int .i64 0] 37 ?_; intro gb461 hg w28 hbox hb; have BK461 := Aside0.mk (hbox); have GW461 := tGe3 HB hg; have GE461 := tGe3 HB hg; have NB426_461 := Aside0.mk ((by rw [hg]; exact Nat.ne_of_lt (IsS112.lt (show IsS112 w _ g426 t423 t459 t460 from by repeat (first | (with_reducible first | exact HI426.out | apply IsS112.alloc | apply IsS112.drewN | apply IsS112.drew | apply IsS112.set_1 | apply IsS112.set_2) | exact HI426.out))) : g426 ≠ gb461)); have NB461_426 := Aside0.mk ((by rw [hg]; exact Nat.ne_of_gt (IsS112.lt (show IsS112 w _ g426 t423 t459 t460 from by repeat (first | (with_reducible first | exact HI426.out | apply IsS112.alloc | apply IsS112.drewN | apply IsS112.drew | apply IsS112.set_1 | apply IsS112.set_2) | exact HI426.out))) : gb461 ≠ g426)); replace HO_5 := Kd.tR HO_5 hb; replace HO_6 := Kd.tR HO_6 hb; replace HI426 := Aside0.mk (IsS112.below cq22 hb); replace HB := tBel2 HB hb; clear hb hbox hg; have hnb29 := NB461_426.out; have hnc29 := NB426_461.out; obtain ⟨hcz30_0, hcz30_1, hcz30_2, hcz30_3, hcz30_4, hcz30_5, hfz30_0, hfz30_1, hfz30_2, hfz30_3, hfz30_4, hfz30_5⟩ := cz6 BK461) | ((with_reducible refine gate_builtin (b := .append) (xs := #[.tmp 34, .tmp 37]) rfl ?_); at_builtin; refine Kd.R_append k72 (w0 := w) w.heap.size rfl (.tmp 34) (.tmp 37) 58 72 (.agg #[(.int .i64 0), (.int .i64 0), (.int .i64 0), (.int .i64 0), (.int .i64 0), (.int .i64 0), (.int .i64 0)]) 56 rfl Try.underlying58 info72 rfl (by decide) (by omega) u6 x6_1 (⟨9, (⟨t453, t454, t455, t456, t457, t458⟩ : S37)⟩ : S72) [.int .i64 9, .int .i64 t453, .int .i64 t454, .int .i64 t455, .int .i64 t456, .int .i64 t457, .int .i64 t458] (fun k_ => some k_ ≠ (.slice Ao19 t427.length co19 : Value).ownBlock) (fun _ => False) rfl (by first | (go_simp; done) | (go_simp; rfl)) ?aP (fun _ hk => hk.elim) ?aF ?aO ?aB ?aS ?aL ?_; (case aP => exact k72_mkM _ _ _ (⟨9, (⟨t453, t454, t455, t456, t457, t458⟩ : S37)⟩ : S72)); (case aB => exact cq75); (case aF => exact (fun k_ hk => Kd.fresh' (Kd.R_lt (by (with_reducible repeat (first | apply Kd.uQ | apply Kd.uR | apply Kd.uV)); exact (Kd.uN (Kd.uM (p := ⟨gb461, 5, none⟩) (Kd.uM (p := ⟨gb461, 4, none⟩) (Kd.uM (p := ⟨gb461, 3, none⟩) (Kd.uM (p := ⟨gb461, 2, none⟩) (Kd.uM (p := ⟨gb461, 1, none⟩) (Kd.uM (p := ⟨gb461, 0, none⟩) (Kd.vG HO_5.out BK461.out (by decide)) (fun _ hk => hk.2) (.int .i64 t453)) (fun _ hk => hk.2) (.int .i64 t454)) (fun _ hk => hk.2) (.int .i64 t455)) (fun _ hk => hk.2) (.int .i64 t456)) (fun _ hk => hk.2) (.int .i64 t457)) (fun _ hk => hk.2) (.int .i64 t458)) (fun _ h_ => h_.1)))) k_ hk)); (case aO => exact (by (with_reducible repeat (first | apply Kd.uQ | apply Kd.uR | apply Kd.uV)); exact Kd.uN (Kd.uM (p := ⟨gb461, 5, none⟩) (Kd.uM (p := ⟨gb461, 4, none⟩) (Kd.uM (p := ⟨gb461, 3, none⟩) (Kd.uM (p := ⟨gb461, 2, none⟩) (Kd.uM (p := ⟨gb461, 1, none⟩) (Kd.uM (p := ⟨gb461, 0, none⟩) (Kd.vG HO_6.out BK461.out (by decide)) (fun _ hk => hk.2) (.int .i64 t453)) (fun _ hk => hk.2) (.int .i64 t454)) (fun _ hk => hk.2) (.int .i64 t455)) (fun _ hk => hk.2) (.int .i64 t456)) (fun _ hk => hk.2) (.int .i64 t457)) (fun _ hk => hk.2) (.int .i64 t458)) (fun _ hk => hk.1))); (case aS => exact (uO cq75)); (case aL => have := LMc26.out; omega); intro v463 w31 ho hb hg hat; rw [← Ny462.out] at ho; have n0_ := Aside0.mk (Kd.R_after (ok := (fun _ => True)) (by (with_reducible repeat (first | apply Kd.uQ | apply Kd.uR | apply Kd.uV)); exact Kd.uN (Kd.uM (p := ⟨gb461, 5, none⟩) (Kd.uM (p := ⟨gb461, 4, none⟩) (Kd.uM (p := ⟨gb461, 3, none⟩) (Kd.uM (p := ⟨gb461, 2, none⟩) (Kd.uM (p := ⟨gb461, 1, none⟩) (Kd.uM (p := ⟨gb461, 0, none⟩) (Kd.vG HO_5.out BK461.out (by decide)) (fun _ hk => hk.2) (.int .i64 t453)) (fun _ hk => hk.2) (.int .i64 t454)) (fun _ hk => hk.2) (.int .i64 t455)) (fun _ hk => hk.2) (.int .i64 t456)) (fun _ hk => hk.2) (.int .i64 t457)) (fun _ hk => hk.2) (.int .i64 t458)) (fun _ hk => ⟨trivial, hk.1⟩)) hg hat); have n1_ := IsS112.tgr HI426 hg (IsS112.own_ne HI426.out HO_6.out (by decide)); have n2_ := tGrP BK461 #[.int .i64 t453, .int .i64 t454, .int .i64 t455, .int .i64 t456, .int .i64 t457, .int .i64 t458] hg (Kd.R_ne HO_6.out BK461.out (by decide)); have n3_ := Aside0.mk (hb); have n4_ := Aside0.mk (ho); clear HO_5; clear HI426; clear BK461; clear HB; clear HO_6; have HO_5 := n0_; have HI426 := n1_; have BK461 := n2_; have HB := n3_; have HO464 := n4_; clear n0_ n1_ n2_ n3_ n4_; clear ho hb hg hat))
      go_roundg k1
      case measure => have := HK1.out; omega
      case rel => exact ⟨(y462), (wrap64 (x7_1 - 1)), (t459), (t460), cq15, H', ⟨by have := HK1.out; omega⟩, ⟨by (with_reducible repeat (first | apply Kd.uQ | apply Kd.uR | apply Kd.uV)); exact Kd.uN HO_5.out (fun _ hk => hk.2)⟩, ⟨by (with_reducible repeat (first | apply Kd.uQ | apply Kd.uR | apply Kd.uV)); exact HO464.out⟩, ⟨by repeat (first | (with_reducible first | exact HI426.out | apply IsS112.alloc | apply IsS112.drewN | apply IsS112.drew | apply IsS112.set_1 | apply IsS112.set_2 | refine IsS112.far ?_ NB426_461.out _) | exact HI426.out)⟩, ⟨cq75⟩⟩

/-! ### spec_DrawCommonPrefix: function 33 -/
def spec_DrawCommonPrefix.f (k : Nat) (l0 : List Int) : Option ((List (S72)) × (List (S72))) := (spec_l5Two.f k l0).bind fun bt465 => (some (bt465.1, bt465.2))
theorem spec_DrawCommonPrefix.mono : ∀ a0 k, uI (spec_DrawCommonPrefix.f k a0) (spec_DrawCommonPrefix.f (k + 1) a0) := by
  intro a0 k
  unfold spec_DrawCommonPrefix.f
  repeat' first
      | (with_reducible exact spec_l5Two.mono _ _)
      | (with_reducible exact uI.refl _)
      | (with_reducible exact uI.none _)
      | (with_reducible refine uI.ite ?_ ?_)
      | (with_reducible refine uI.bind ?_ (fun _ => ?_))
      | exact uI.none _
      | refine uI.ite ?_ ?_
      | refine uI.bind ?_ (fun _ => ?_)
set_option maxHeartbeats 8000000 in
set_option maxRecDepth 100000 in
theorem spec_DrawCommonPrefix.calls (k : Nat) (A0 : Option Addr) (c0 : Nat) (l0 : List Int) (r1 : List (S72)) (r2 : List (S72)) (w : World) (hr0 : Kd.C (Kd.int .u8) w A0 l0.length l0) (hc0 : l0.length ≤ c0) (h : spec_DrawCommonPrefix.f k l0 = some (r1, r2)) :
    Calls Try.prog 33 #[.slice A0 l0.length c0] w fun e w' => ∃ v0_ v1_ : Value, e = .returned (.tuple #[v0_, v1_]) ∧ Kd.R k72 72 w' w.heap.size (fun k_ => some k_ ≠ (v1_ : Value).ownBlock) v0_ r1 ∧ Kd.R k72 72 w' w.heap.size (fun k_ => some k_ ≠ (v0_ : Value).ownBlock) v1_ r2 ∧ Below w.heap.size w w' := by
  have HR0 := Aside0.mk hr0
  have HC0 := Aside0.mk hc0
  clear hr0 hc0
  have HB := Aside0.mk (Below.refl w.heap.size w)
  have H : ((spec_l5Two.f k l0).bind fun bt465 => (some (bt465.1, bt465.2))) = some (r1, r2) := h
  clear h
  replace H := Option.bind_eq_some_iff.mp H
  obtain ⟨⟨t465, t466⟩, A20, H⟩ := H
  try dsimp only at H
  have A2 := Aside0.mk A20
  clear A20
  simp only [Option.some.injEq, Prod.mk.injEq] at H
  obtain ⟨rfl, rfl⟩ := H
  go_enter Try.func33, Try.ntmps33
  go_wp2_with (first | ((with_reducible refine uF (f := 72) rfl ?_); refine uX (some 8) Try.func72 #[.slice A0 l0.length c0] ?_; (with_reducible refine (spec_l5Two.calls k _ _ l0 t465 t466 _ ?side1 ?side2 A2.out).mono ?_); (case side1 => exact cq64); (case side2 => exact HC0.out); rintro e w3 ⟨v467, v469, rfl, ho0, ho1, hb⟩; refine ⟨_, rfl, ?_⟩; have HO468 := Aside0.mk (Kd.uS ho0 (uO cq9)); have HO470 := Aside0.mk (Kd.uS ho1 (uO cq9)); replace HB := vB HB hb; (try clear hb); (try clear ho0); (try clear ho1)))
  go_ret2
  exact ⟨_, _, cq3, by (with_reducible repeat (first | apply Kd.uQ | apply Kd.uR | apply Kd.uV)); exact HO468.out, by (with_reducible repeat (first | apply Kd.uQ | apply Kd.uR | apply Kd.uV)); exact HO470.out, cq9⟩

/-! ### impl_CommonPrefix: function 34 -/
def impl_CommonPrefix.l0 : Nat → List (S72) → List (S72) → Int → Option (Int)
  | 0, _, _, _ => none
  | k + 1, x0, x1, x5 => if x5 < (x0.length : Int) then (if x5 < (x1.length : Int) then (if 0 ≤ x5 then (if (((rd_T72 x0 x5).f0) == ((rd_T72 x1 x5).f0) && ((((rd_T72 x0 x5).f1.f0) == ((rd_T72 x1 x5).f1.f0) && (((rd_T72 x0 x5).f1.f1) == ((rd_T72 x1 x5).f1.f1) && (((rd_T72 x0 x5).f1.f2) == ((rd_T72 x1 x5).f1.f2) && (((rd_T72 x0 x5).f1.f3) == ((rd_T72 x1 x5).f1.f3) && (((rd_T72 x0 x5).f1.f4) == ((rd_T72 x1 x5).f1.f4) && (((rd_T72 x0 x5).f1.f5) == ((rd_T72 x1 x5).f1.f5))))))))) = true then (impl_CommonPrefix.l0 k x0 x1 (wrap64 (x5 + 1))) else (some x5)) else (none)) else (some x5)) else (some x5)
def impl_CommonPrefix.f (k : Nat) (l0 : List (S72)) (l1 : List (S72)) : Option (Int) := impl_CommonPrefix.l0 k l0 l1 0
theorem impl_CommonPrefix.mono_l : ∀ k, (∀ y0 y1 y2, uI (impl_CommonPrefix.l0 k y0 y1 y2) (impl_CommonPrefix.l0 (k + 1) y0 y1 y2))
  | 0 => fun _ _ _ r h => by simp [impl_CommonPrefix.l0] at h
  | k + 1 => by
    have ih0 := impl_CommonPrefix.mono_l k
    intro y0 y1 y2
    unfold impl_CommonPrefix.l0
    repeat' first
    | (with_reducible exact ih0 _ _ _)
    | (with_reducible exact uI.refl _)
    | (with_reducible exact uI.none _)
    | (with_reducible refine uI.ite ?_ ?_)
    | (with_reducible refine uI.bind ?_ (fun _ => ?_))
    | exact ih0 _ _ _
    | exact uI.none _
    | refine uI.ite ?_ ?_
    | refine uI.bind ?_ (fun _ => ?_)
theorem impl_CommonPrefix.mono : ∀ a0 a1 k, uI (impl_CommonPrefix.f k a0 a1) (impl_CommonPrefix.f (k + 1) a0 a1) := by
  intro a0 a1 k
  have ih0 := impl_CommonPrefix.mono_l k
  unfold impl_CommonPrefix.f
  repeat' first
      | (with_reducible exact ih0 _ _ _)
      | (with_reducible exact uI.refl _)
      | (with_reducible exact uI.none _)
      | (with_reducible refine uI.ite ?_ ?_)
      | (with_reducible refine uI.bind ?_ (fun _ => ?_))
      | exact ih0 _ _ _
      | exact uI.none _
      | refine uI.ite ?_ ?_
      | refine uI.bind ?_ (fun _ => ?_)
set_option maxHeartbeats 8000000 in
set_option maxRecDepth 100000 in
theorem impl_CommonPrefix.calls (k : Nat) (A0 : Option Addr) (c0 : Nat) (l0 : List (S72)) (A1 : Option Addr) (c1 : Nat) (l1 : List (S72)) (r : Int) (w : World) (hr0 : Kd.C k72 w A0 l0.length l0) (hc0 : l0.length ≤ c0) (hr1 : Kd.C k72 w A1 l1.length l1) (hc1 : l1.length ≤ c1) (h : impl_CommonPrefix.f k l0 l1 = some r) :
    Calls Try.prog 34 #[.slice A0 l0.length c0, .slice A1 l1.length c1] w fun e w' => e = .returned (.int .i64 r) ∧ Drawn0 w w' := by
  have hu72 := Try.underlying72
  have HR0 := Aside0.mk hr0
  have HC0 := Aside0.mk hc0
  clear hr0 hc0
  have HR1 := Aside0.mk hr1
  have HC1 := Aside0.mk hc1
  clear hr1 hc1
  have H : (impl_CommonPrefix.l0 k l0 l1 0) = some r := h
  clear h
  have H' := Aside0.mk H
  clear H
  go_enter Try.func34, Try.ntmps34
  go_wp2
  repeat (go_quiet (fail); try go_wp2)
  go_loopg [5] k (fun kq v5 w' => ∃ (x5_1 : Int), v5 = .int .i64 x5_1 ∧ Aside0 (impl_CommonPrefix.l0 kq l0 l1 x5_1 = some r) ∧ Aside0 (kq ≤ k) ∧ Drawn0 w w')
  case atStart => exact ⟨(0), cq15, H', ⟨Nat.le_refl _⟩, cq37⟩
  case round =>
    clear H'
    try clear c1
    obtain ⟨x5_1, rfl, HA, HK1, ⟨m1, rfl⟩⟩ := hrel
    cases gk with
    | zero => exact absurd HA.out (by simp [impl_CommonPrefix.l0])
    | succ k1 =>
      have H := HA.out
      clear HA
      simp only [impl_CommonPrefix.l0] at H
      by_cases c3 : x5_1 < (l0.length : Int)
      rotate_left
      · rw [if_neg c3] at H
        have c3b0 := decide_eq_false c3
        clear c3
        obtain rfl := Option.some.inj H
        go_wp2
        repeat (go_quiet (fail); try go_wp2)
        go_ret
        exact ⟨cq15, cq37⟩
      rw [if_pos c3] at H
      have c3b0 := decide_eq_true c3
      clear c3
      by_cases c4 : x5_1 < (l1.length : Int)
      rotate_left
      · rw [if_neg c4] at H
        have c4b0 := decide_eq_false c4
        clear c4
        obtain rfl := Option.some.inj H
        go_wp2
        repeat (go_quiet (fail); try go_wp2)
        go_ret
        exact ⟨cq15, cq37⟩
      rw [if_pos c4] at H
      have c4b0 := decide_eq_true c4
      clear c4
      obtain ⟨c5b0, H⟩ := ifD H
      by_cases c6 : (((rd_T72 l0 x5_1).f0) == ((rd_T72 l1 x5_1).f0) && ((((rd_T72 l0 x5_1).f1.f0) == ((rd_T72 l1 x5_1).f1.f0) && (((rd_T72 l0 x5_1).f1.f1) == ((rd_T72 l1 x5_1).f1.f1) && (((rd_T72 l0 x5_1).f1.f2) == ((rd_T72 l1 x5_1).f1.f2) && (((rd_T72 l0 x5_1).f1.f3) == ((rd_T72 l1 x5_1).f1.f3) && (((rd_T72 l0 x5_1).f1.f4) == ((rd_T72 l1 x5_1).f1.f4) && (((rd_T72 l0 x5_1).f1.f5) == ((rd_T72 l1 x5_1).f1.f5))))))))) = true
      · rw [if_pos c6] at H
        have c6b0 : (((rd_T72 l0 x5_1).f0) == ((rd_T72 l1 x5_1).f0) && ((((rd_T72 l0 x5_1).f1.f0) == ((rd_T72 l1 x5_1).f1.f0) && (((rd_T72 l0 x5_1).f1.f1) == ((rd_T72 l1 x5_1).f1.f1) && (((rd_T72 l0 x5_1).f1.f2) == ((rd_T72 l1 x5_1).f1.f2) && (((rd_T72 l0 x5_1).f1.f3) == ((rd_T72 l1 x5_1).f1.f3) && (((rd_T72 l0 x5_1).f1.f4) == ((rd_T72 l1 x5_1).f1.f4) && (((rd_T72 l0 x5_1).f1.f5) == ((rd_T72 l1 x5_1).f1.f5))))))))) = true := c6
        (try (have c6b1 : decide (((rd_T72 l0 x5_1).f0) = ((rd_T72 l1 x5_1).f0) && ((((rd_T72 l0 x5_1).f1.f0) == ((rd_T72 l1 x5_1).f1.f0) && (((rd_T72 l0 x5_1).f1.f1) == ((rd_T72 l1 x5_1).f1.f1) && (((rd_T72 l0 x5_1).f1.f2) == ((rd_T72 l1 x5_1).f1.f2) && (((rd_T72 l0 x5_1).f1.f3) == ((rd_T72 l1 x5_1).f1.f3) && (((rd_T72 l0 x5_1).f1.f4) == ((rd_T72 l1 x5_1).f1.f4) && (((rd_T72 l0 x5_1).f1.f5) == ((rd_T72 l1 x5_1).f1.f5))))))))) = true := by simpa using c6))
        (try (have c6b2 : (((rd_T72 l0 x5_1).f0) == ((rd_T72 l1 x5_1).f0) && ((((rd_T72 l0 x5_1).f1.f0) == ((rd_T72 l1 x5_1).f1.f0) && (((rd_T72 l0 x5_1).f1.f1) == ((rd_T72 l1 x5_1).f1.f1) && (((rd_T72 l0 x5_1).f1.f2) == ((rd_T72 l1 x5_1).f1.f2) && (((rd_T72 l0 x5_1).f1.f3) == ((rd_T72 l1 x5_1).f1.f3) && (((rd_T72 l0 x5_1).f1.f4) == ((rd_T72 l1 x5_1).f1.f4) && (((rd_T72 l0 x5_1).f1.f5) == ((rd_T72 l1 x5_1).f1.f5))))))))) = true := by simpa using c6))
        clear c6
        have H' := Aside0.mk H
        clear H
        have p471 : 0 ≤ (x5_1 : Int) := of_decide_eq_true cq12
        have q471 : x5_1 < (l0.length : Int) := of_decide_eq_true cq12
        obtain ⟨ad471, e471, hx471_0, hx471_1, hx471_2, hx471_3, hx471_4, hx471_5, hx471_6⟩ := at_T72 HR0.out x5_1 p471 q471
        cases e471
        replace p471 := eq_true p471
        replace q471 := eq_true q471
        have p472 : 0 ≤ (x5_1 : Int) := of_decide_eq_true cq12
        have q472 : x5_1 < (l1.length : Int) := of_decide_eq_true cq12
        obtain ⟨ad472, e472, hx472_0, hx472_1, hx472_2, hx472_3, hx472_4, hx472_5, hx472_6⟩ := at_T72 HR1.out x5_1 p472 q472
        cases e472
        replace p472 := eq_true p472
        replace q472 := eq_true q472
        go_wp2
        repeat (go_quiet (fail); try go_wp2)
        go_roundg k1
        case measure => have := HK1.out; omega
        case rel => exact ⟨(wrap64 (x5_1 + 1)), cq15, H', ⟨by have := HK1.out; omega⟩, cq37⟩
      rw [if_neg c6] at H
      have c6b0 : (((rd_T72 l0 x5_1).f0) == ((rd_T72 l1 x5_1).f0) && ((((rd_T72 l0 x5_1).f1.f0) == ((rd_T72 l1 x5_1).f1.f0) && (((rd_T72 l0 x5_1).f1.f1) == ((rd_T72 l1 x5_1).f1.f1) && (((rd_T72 l0 x5_1).f1.f2) == ((rd_T72 l1 x5_1).f1.f2) && (((rd_T72 l0 x5_1).f1.f3) == ((rd_T72 l1 x5_1).f1.f3) && (((rd_T72 l0 x5_1).f1.f4) == ((rd_T72 l1 x5_1).f1.f4) && (((rd_T72 l0 x5_1).f1.f5) == ((rd_T72 l1 x5_1).f1.f5))))))))) = false := by simpa using c6
      (try (have c6b1 : decide (((rd_T72 l0 x5_1).f0) = ((rd_T72 l1 x5_1).f0) && ((((rd_T72 l0 x5_1).f1.f0) == ((rd_T72 l1 x5_1).f1.f0) && (((rd_T72 l0 x5_1).f1.f1) == ((rd_T72 l1 x5_1).f1.f1) && (((rd_T72 l0 x5_1).f1.f2) == ((rd_T72 l1 x5_1).f1.f2) && (((rd_T72 l0 x5_1).f1.f3) == ((rd_T72 l1 x5_1).f1.f3) && (((rd_T72 l0 x5_1).f1.f4) == ((rd_T72 l1 x5_1).f1.f4) && (((rd_T72 l0 x5_1).f1.f5) == ((rd_T72 l1 x5_1).f1.f5))))))))) = false := by simpa using c6))
      (try (have c6b2 : (((rd_T72 l0 x5_1).f0) == ((rd_T72 l1 x5_1).f0) && ((((rd_T72 l0 x5_1).f1.f0) == ((rd_T72 l1 x5_1).f1.f0) && (((rd_T72 l0 x5_1).f1.f1) == ((rd_T72 l1 x5_1).f1.f1) && (((rd_T72 l0 x5_1).f1.f2) == ((rd_T72 l1 x5_1).f1.f2) && (((rd_T72 l0 x5_1).f1.f3) == ((rd_T72 l1 x5_1).f1.f3) && (((rd_T72 l0 x5_1).f1.f4) == ((rd_T72 l1 x5_1).f1.f4) && (((rd_T72 l0 x5_1).f1.f5) == ((rd_T72 l1 x5_1).f1.f5))))))))) = false := by simpa using c6))
      (try (have c6b3 : ¬ (((rd_T72 l0 x5_1).f0) = ((rd_T72 l1 x5_1).f0) && ((((rd_T72 l0 x5_1).f1.f0) == ((rd_T72 l1 x5_1).f1.f0) && (((rd_T72 l0 x5_1).f1.f1) == ((rd_T72 l1 x5_1).f1.f1) && (((rd_T72 l0 x5_1).f1.f2) == ((rd_T72 l1 x5_1).f1.f2) && (((rd_T72 l0 x5_1).f1.f3) == ((rd_T72 l1 x5_1).f1.f3) && (((rd_T72 l0 x5_1).f1.f4) == ((rd_T72 l1 x5_1).f1.f4) && (((rd_T72 l0 x5_1).f1.f5) == ((rd_T72 l1 x5_1).f1.f5))))))))) := by simpa using c6))
      clear c6
      obtain rfl := Option.some.inj H
      have p471 : 0 ≤ (x5_1 : Int) := of_decide_eq_true cq12
      have q471 : x5_1 < (l0.length : Int) := of_decide_eq_true cq12
      obtain ⟨ad471, e471, hx471_0, hx471_1, hx471_2, hx471_3, hx471_4, hx471_5, hx471_6⟩ := at_T72 HR0.out x5_1 p471 q471
      cases e471
      replace p471 := eq_true p471
      replace q471 := eq_true q471
      have p472 : 0 ≤ (x5_1 : Int) := of_decide_eq_true cq12
      have q472 : x5_1 < (l1.length : Int) := of_decide_eq_true cq12
      obtain ⟨ad472, e472, hx472_0, hx472_1, hx472_2, hx472_3, hx472_4, hx472_5, hx472_6⟩ := at_T72 HR1.out x5_1 p472 q472
      cases e472
      replace p472 := eq_true p472
      replace q472 := eq_true q472
      go_wp2
      repeat (go_quiet (fail); try go_wp2)
      go_ret
      exact ⟨cq15, cq37⟩

/-! ### spec_CommonPrefix: function 35 -/
def spec_CommonPrefix.l0 : Nat → List (S72) → List (S72) → Int → Option (Int)
  | 0, _, _, _ => none
  | k + 1, x0, x1, x5 => if x5 < (x0.length : Int) then (if x5 < (x1.length : Int) then (if 0 ≤ x5 then (if (((rd_T72 x0 x5).f0) == ((rd_T72 x1 x5).f0) && ((((rd_T72 x0 x5).f1.f0) == ((rd_T72 x1 x5).f1.f0) && (((rd_T72 x0 x5).f1.f1) == ((rd_T72 x1 x5).f1.f1) && (((rd_T72 x0 x5).f1.f2) == ((rd_T72 x1 x5).f1.f2) && (((rd_T72 x0 x5).f1.f3) == ((rd_T72 x1 x5).f1.f3) && (((rd_T72 x0 x5).f1.f4) == ((rd_T72 x1 x5).f1.f4) && (((rd_T72 x0 x5).f1.f5) == ((rd_T72 x1 x5).f1.f5))))))))) = true then (spec_CommonPrefix.l0 k x0 x1 (wrap64 (x5 + 1))) else (some x5)) else (none)) else (some x5)) else (some x5)
def spec_CommonPrefix.f (k : Nat) (l0 : List (S72)) (l1 : List (S72)) : Option (Int) := spec_CommonPrefix.l0 k l0 l1 0
theorem spec_CommonPrefix.mono_l : ∀ k, (∀ y0 y1 y2, uI (spec_CommonPrefix.l0 k y0 y1 y2) (spec_CommonPrefix.l0 (k + 1) y0 y1 y2))
  | 0 => fun _ _ _ r h => by simp [spec_CommonPrefix.l0] at h
  | k + 1 => by
    have ih0 := spec_CommonPrefix.mono_l k
    intro y0 y1 y2
    unfold spec_CommonPrefix.l0
    repeat' first
    | (with_reducible exact ih0 _ _ _)
    | (with_reducible exact uI.refl _)
    | (with_reducible exact uI.none _)
    | (with_reducible refine uI.ite ?_ ?_)
    | (with_reducible refine uI.bind ?_ (fun _ => ?_))
    | exact ih0 _ _ _
    | exact uI.none _
    | refine uI.ite ?_ ?_
    | refine uI.bind ?_ (fun _ => ?_)
theorem spec_CommonPrefix.mono : ∀ a0 a1 k, uI (spec_CommonPrefix.f k a0 a1) (spec_CommonPrefix.f (k + 1) a0 a1) := by
  intro a0 a1 k
  have ih0 := spec_CommonPrefix.mono_l k
  unfold spec_CommonPrefix.f
  repeat' first
      | (with_reducible exact ih0 _ _ _)
      | (with_reducible exact uI.refl _)
      | (with_reducible exact uI.none _)
      | (with_reducible refine uI.ite ?_ ?_)
      | (with_reducible refine uI.bind ?_ (fun _ => ?_))
      | exact ih0 _ _ _
      | exact uI.none _
      | refine uI.ite ?_ ?_
      | refine uI.bind ?_ (fun _ => ?_)
set_option maxHeartbeats 8000000 in
set_option maxRecDepth 100000 in
theorem spec_CommonPrefix.calls (k : Nat) (A0 : Option Addr) (c0 : Nat) (l0 : List (S72)) (A1 : Option Addr) (c1 : Nat) (l1 : List (S72)) (r : Int) (w : World) (hr0 : Kd.C k72 w A0 l0.length l0) (hc0 : l0.length ≤ c0) (hr1 : Kd.C k72 w A1 l1.length l1) (hc1 : l1.length ≤ c1) (h : spec_CommonPrefix.f k l0 l1 = some r) :
    Calls Try.prog 35 #[.slice A0 l0.length c0, .slice A1 l1.length c1] w fun e w' => e = .returned (.int .i64 r) ∧ Drawn0 w w' := by
  have hu72 := Try.underlying72
  have HR0 := Aside0.mk hr0
  have HC0 := Aside0.mk hc0
  clear hr0 hc0
  have HR1 := Aside0.mk hr1
  have HC1 := Aside0.mk hc1
  clear hr1 hc1
  have H : (spec_CommonPrefix.l0 k l0 l1 0) = some r := h
  clear h
  have H' := Aside0.mk H
  clear H
  go_enter Try.func35, Try.ntmps35
  go_wp2
  repeat (go_quiet (fail); try go_wp2)
  go_loopg [5] k (fun kq v5 w' => ∃ (x5_1 : Int), v5 = .int .i64 x5_1 ∧ Aside0 (spec_CommonPrefix.l0 kq l0 l1 x5_1 = some r) ∧ Aside0 (kq ≤ k) ∧ Drawn0 w w')
  case atStart => exact ⟨(0), cq15, H', ⟨Nat.le_refl _⟩, cq37⟩
  case round =>
    clear H'
    try clear c1
    obtain ⟨x5_1, rfl, HA, HK1, ⟨m1, rfl⟩⟩ := hrel
    cases gk with
    | zero => exact absurd HA.out (by simp [spec_CommonPrefix.l0])
    | succ k1 =>
      have H := HA.out
      clear HA
      simp only [spec_CommonPrefix.l0] at H
      by_cases c3 : x5_1 < (l0.length : Int)
      rotate_left
      · rw [if_neg c3] at H
        have c3b0 := decide_eq_false c3
        clear c3
        obtain rfl := Option.some.inj H
        go_wp2
        repeat (go_quiet (fail); try go_wp2)
        go_ret
        exact ⟨cq15, cq37⟩
      rw [if_pos c3] at H
      have c3b0 := decide_eq_true c3
      clear c3
      by_cases c4 : x5_1 < (l1.length : Int)
      rotate_left
      · rw [if_neg c4] at H
        have c4b0 := decide_eq_false c4
        clear c4
        obtain rfl := Option.some.inj H
        go_wp2
        repeat (go_quiet (fail); try go_wp2)
        go_ret
        exact ⟨cq15, cq37⟩
      rw [if_pos c4] at H
      have c4b0 := decide_eq_true c4
      clear c4
      obtain ⟨c5b0, H⟩ := ifD H
      by_cases c6 : (((rd_T72 l0 x5_1).f0) == ((rd_T72 l1 x5_1).f0) && ((((rd_T72 l0 x5_1).f1.f0) == ((rd_T72 l1 x5_1).f1.f0) && (((rd_T72 l0 x5_1).f1.f1) == ((rd_T72 l1 x5_1).f1.f1) && (((rd_T72 l0 x5_1).f1.f2) == ((rd_T72 l1 x5_1).f1.f2) && (((rd_T72 l0 x5_1).f1.f3) == ((rd_T72 l1 x5_1).f1.f3) && (((rd_T72 l0 x5_1).f1.f4) == ((rd_T72 l1 x5_1).f1.f4) && (((rd_T72 l0 x5_1).f1.f5) == ((rd_T72 l1 x5_1).f1.f5))))))))) = true
      · rw [if_pos c6] at H
        have c6b0 : (((rd_T72 l0 x5_1).f0) == ((rd_T72 l1 x5_1).f0) && ((((rd_T72 l0 x5_1).f1.f0) == ((rd_T72 l1 x5_1).f1.f0) && (((rd_T72 l0 x5_1).f1.f1) == ((rd_T72 l1 x5_1).f1.f1) && (((rd_T72 l0 x5_1).f1.f2) == ((rd_T72 l1 x5_1).f1.f2) && (((rd_T72 l0 x5_1).f1.f3) == ((rd_T72 l1 x5_1).f1.f3) && (((rd_T72 l0 x5_1).f1.f4) == ((rd_T72 l1 x5_1).f1.f4) && (((rd_T72 l0 x5_1).f1.f5) == ((rd_T72 l1 x5_1).f1.f5))))))))) = true := c6
        (try (have c6b1 : decide (((rd_T72 l0 x5_1).f0) = ((rd_T72 l1 x5_1).f0) && ((((rd_T72 l0 x5_1).f1.f0) == ((rd_T72 l1 x5_1).f1.f0) && (((rd_T72 l0 x5_1).f1.f1) == ((rd_T72 l1 x5_1).f1.f1) && (((rd_T72 l0 x5_1).f1.f2) == ((rd_T72 l1 x5_1).f1.f2) && (((rd_T72 l0 x5_1).f1.f3) == ((rd_T72 l1 x5_1).f1.f3) && (((rd_T72 l0 x5_1).f1.f4) == ((rd_T72 l1 x5_1).f1.f4) && (((rd_T72 l0 x5_1).f1.f5) == ((rd_T72 l1 x5_1).f1.f5))))))))) = true := by simpa using c6))
        (try (have c6b2 : (((rd_T72 l0 x5_1).f0) == ((rd_T72 l1 x5_1).f0) && ((((rd_T72 l0 x5_1).f1.f0) == ((rd_T72 l1 x5_1).f1.f0) && (((rd_T72 l0 x5_1).f1.f1) == ((rd_T72 l1 x5_1).f1.f1) && (((rd_T72 l0 x5_1).f1.f2) == ((rd_T72 l1 x5_1).f1.f2) && (((rd_T72 l0 x5_1).f1.f3) == ((rd_T72 l1 x5_1).f1.f3) && (((rd_T72 l0 x5_1).f1.f4) == ((rd_T72 l1 x5_1).f1.f4) && (((rd_T72 l0 x5_1).f1.f5) == ((rd_T72 l1 x5_1).f1.f5))))))))) = true := by simpa using c6))
        clear c6
        have H' := Aside0.mk H
        clear H
        have p473 : 0 ≤ (x5_1 : Int) := of_decide_eq_true cq12
        have q473 : x5_1 < (l0.length : Int) := of_decide_eq_true cq12
        obtain ⟨ad473, e473, hx473_0, hx473_1, hx473_2, hx473_3, hx473_4, hx473_5, hx473_6⟩ := at_T72 HR0.out x5_1 p473 q473
        cases e473
        replace p473 := eq_true p473
        replace q473 := eq_true q473
        have p474 : 0 ≤ (x5_1 : Int) := of_decide_eq_true cq12
        have q474 : x5_1 < (l1.length : Int) := of_decide_eq_true cq12
        obtain ⟨ad474, e474, hx474_0, hx474_1, hx474_2, hx474_3, hx474_4, hx474_5, hx474_6⟩ := at_T72 HR1.out x5_1 p474 q474
        cases e474
        replace p474 := eq_true p474
        replace q474 := eq_true q474
        go_wp2
        repeat (go_quiet (fail); try go_wp2)
        go_roundg k1
        case measure => have := HK1.out; omega
        case rel => exact ⟨(wrap64 (x5_1 + 1)), cq15, H', ⟨by have := HK1.out; omega⟩, cq37⟩
      rw [if_neg c6] at H
      have c6b0 : (((rd_T72 l0 x5_1).f0) == ((rd_T72 l1 x5_1).f0) && ((((rd_T72 l0 x5_1).f1.f0) == ((rd_T72 l1 x5_1).f1.f0) && (((rd_T72 l0 x5_1).f1.f1) == ((rd_T72 l1 x5_1).f1.f1) && (((rd_T72 l0 x5_1).f1.f2) == ((rd_T72 l1 x5_1).f1.f2) && (((rd_T72 l0 x5_1).f1.f3) == ((rd_T72 l1 x5_1).f1.f3) && (((rd_T72 l0 x5_1).f1.f4) == ((rd_T72 l1 x5_1).f1.f4) && (((rd_T72 l0 x5_1).f1.f5) == ((rd_T72 l1 x5_1).f1.f5))))))))) = false := by simpa using c6
      (try (have c6b1 : decide (((rd_T72 l0 x5_1).f0) = ((rd_T72 l1 x5_1).f0) && ((((rd_T72 l0 x5_1).f1.f0) == ((rd_T72 l1 x5_1).f1.f0) && (((rd_T72 l0 x5_1).f1.f1) == ((rd_T72 l1 x5_1).f1.f1) && (((rd_T72 l0 x5_1).f1.f2) == ((rd_T72 l1 x5_1).f1.f2) && (((rd_T72 l0 x5_1).f1.f3) == ((rd_T72 l1 x5_1).f1.f3) && (((rd_T72 l0 x5_1).f1.f4) == ((rd_T72 l1 x5_1).f1.f4) && (((rd_T72 l0 x5_1).f1.f5) == ((rd_T72 l1 x5_1).f1.f5))))))))) = false := by simpa using c6))
      (try (have c6b2 : (((rd_T72 l0 x5_1).f0) == ((rd_T72 l1 x5_1).f0) && ((((rd_T72 l0 x5_1).f1.f0) == ((rd_T72 l1 x5_1).f1.f0) && (((rd_T72 l0 x5_1).f1.f1) == ((rd_T72 l1 x5_1).f1.f1) && (((rd_T72 l0 x5_1).f1.f2) == ((rd_T72 l1 x5_1).f1.f2) && (((rd_T72 l0 x5_1).f1.f3) == ((rd_T72 l1 x5_1).f1.f3) && (((rd_T72 l0 x5_1).f1.f4) == ((rd_T72 l1 x5_1).f1.f4) && (((rd_T72 l0 x5_1).f1.f5) == ((rd_T72 l1 x5_1).f1.f5))))))))) = false := by simpa using c6))
      (try (have c6b3 : ¬ (((rd_T72 l0 x5_1).f0) = ((rd_T72 l1 x5_1).f0) && ((((rd_T72 l0 x5_1).f1.f0) == ((rd_T72 l1 x5_1).f1.f0) && (((rd_T72 l0 x5_1).f1.f1) == ((rd_T72 l1 x5_1).f1.f1) && (((rd_T72 l0 x5_1).f1.f2) == ((rd_T72 l1 x5_1).f1.f2) && (((rd_T72 l0 x5_1).f1.f3) == ((rd_T72 l1 x5_1).f1.f3) && (((rd_T72 l0 x5_1).f1.f4) == ((rd_T72 l1 x5_1).f1.f4) && (((rd_T72 l0 x5_1).f1.f5) == ((rd_T72 l1 x5_1).f1.f5))))))))) := by simpa using c6))
      clear c6
      obtain rfl := Option.some.inj H
      have p473 : 0 ≤ (x5_1 : Int) := of_decide_eq_true cq12
      have q473 : x5_1 < (l0.length : Int) := of_decide_eq_true cq12
      obtain ⟨ad473, e473, hx473_0, hx473_1, hx473_2, hx473_3, hx473_4, hx473_5, hx473_6⟩ := at_T72 HR0.out x5_1 p473 q473
      cases e473
      replace p473 := eq_true p473
      replace q473 := eq_true q473
      have p474 : 0 ≤ (x5_1 : Int) := of_decide_eq_true cq12
      have q474 : x5_1 < (l1.length : Int) := of_decide_eq_true cq12
      obtain ⟨ad474, e474, hx474_0, hx474_1, hx474_2, hx474_3, hx474_4, hx474_5, hx474_6⟩ := at_T72 HR1.out x5_1 p474 q474
      cases e474
      replace p474 := eq_true p474
      replace q474 := eq_true q474
      go_wp2
      repeat (go_quiet (fail); try go_wp2)
      go_ret
      exact ⟨cq15, cq37⟩

/-! ### impl_IsPrefix: function 36 -/
def impl_IsPrefix.f (k : Nat) (l0 : List (S72)) (l1 : List (S72)) : Option (Bool) := (impl_CommonPrefix.f k l0 l1).bind fun t475 => (some (t475 == (l0.length : Int)))
theorem impl_IsPrefix.mono : ∀ a0 a1 k, uI (impl_IsPrefix.f k a0 a1) (impl_IsPrefix.f (k + 1) a0 a1) := by
  intro a0 a1 k
  unfold impl_IsPrefix.f
  repeat' first
      | (with_reducible exact impl_CommonPrefix.mono _ _ _)
      | (with_reducible exact uI.refl _)
      | (with_reducible exact uI.none _)
      | (with_reducible refine uI.ite ?_ ?_)
      | (with_reducible refine uI.bind ?_ (fun _ => ?_))
      | exact uI.none _
      | refine uI.ite ?_ ?_
      | refine uI.bind ?_ (fun _ => ?_)
set_option maxHeartbeats 8000000 in
set_option maxRecDepth 100000 in
theorem impl_IsPrefix.calls (k : Nat) (A0 : Option Addr) (c0 : Nat) (l0 : List (S72)) (A1 : Option Addr) (c1 : Nat) (l1 : List (S72)) (r : Bool) (w : World) (hr0 : Kd.C k72 w A0 l0.length l0) (hc0 : l0.length ≤ c0) (hr1 : Kd.C k72 w A1 l1.length l1) (hc1 : l1.length ≤ c1) (h : impl_IsPrefix.f k l0 l1 = some r) :
    Calls Try.prog 36 #[.slice A0 l0.length c0, .slice A1 l1.length c1] w fun e w' => e = .returned (.bool r) ∧ Drawn0 w w' := by
  have HR0 := Aside0.mk hr0
  have HC0 := Aside0.mk hc0
  clear hr0 hc0
  have HR1 := Aside0.mk hr1
  have HC1 := Aside0.mk hc1
  clear hr1 hc1
  have H : ((impl_CommonPrefix.f k l0 l1).bind fun t475 => (some (t475 == (l0.length : Int)))) = some r := h
  clear h
  replace H := Option.bind_eq_some_iff.mp H
  obtain ⟨t475, A30, H⟩ := H
  try dsimp only at H
  have A3 := Aside0.mk A30
  clear A30
  obtain rfl := Option.some.inj H
  go_enter Try.func36, Try.ntmps36
  go_wp2_with (first | ((with_reducible refine uF (f := 34) rfl ?_); refine uX (some 7) Try.func34 #[.slice A0 l0.length c0, .slice A1 l1.length c1] ?_; (with_reducible refine (impl_CommonPrefix.calls k _ _ l0 _ _ l1 t475 _ ?side1 ?side2 ?side3 ?side4 A3.out).mono ?_); (case side1 => exact cq64); (case side2 => exact HC0.out); (case side3 => repeat (first | exact HR1.out | (with_reducible refine Kd.vW ?_ _) | (with_reducible refine Kd.vV ?_ _) | (with_reducible refine Kd.C_drew ?_))); (case side4 => exact HC1.out); rintro e w' ⟨rfl, ⟨nd, rfl⟩⟩; refine ⟨_, rfl, ?_⟩))
  go_ret
  exact ⟨cq15, cq37⟩

/-! ### spec_DrawResultAt: function 37 -/
def spec_DrawResultAt.f (k : Nat) (l0 : List Int) : Option ((List (S72)) × Int) := (spec_l1New.f k l0).bind fun bt476 => ((spec_l5Any.f k bt476.1 bt476.2.1 bt476.2.2).bind fun bt480 => ((spec_l1Below.f bt476.1 bt480.2.1 bt480.2.2 (wrap64 ((bt480.1.length : Int) + 2))).bind fun bt485 => (some (bt480.1, wrap64 (bt485.1 - 1)))))
theorem spec_DrawResultAt.mono : ∀ a0 k, uI (spec_DrawResultAt.f k a0) (spec_DrawResultAt.f (k + 1) a0) := by
  intro a0 k
  unfold spec_DrawResultAt.f
  repeat' first
      | (with_reducible exact spec_l1New.mono _ _)
      | (with_reducible exact spec_l5Any.mono _ _ _ _)
      | (with_reducible exact uI.refl _)
      | (with_reducible exact uI.none _)
      | (with_reducible refine uI.ite ?_ ?_)
      | (with_reducible refine uI.bind ?_ (fun _ => ?_))
      | exact uI.none _
      | refine uI.ite ?_ ?_
      | refine uI.bind ?_ (fun _ => ?_)
set_option maxHeartbeats 8000000 in
set_option maxRecDepth 100000 in
theorem spec_DrawResultAt.calls (k : Nat) (A0 : Option Addr) (c0 : Nat) (l0 : List Int) (r1 : List (S72)) (r2 : Int) (w : World) (hr0 : Kd.C (Kd.int .u8) w A0 l0.length l0) (hc0 : l0.length ≤ c0) (h : spec_DrawResultAt.f k l0 = some (r1, r2)) :
    Calls Try.prog 37 #[.slice A0 l0.length c0] w fun e w' => ∃ v0_ : Value, e = .returned (.tuple #[v0_, .int .i64 r2]) ∧ Kd.R k72 72 w' w.heap.size (fun _ => True) v0_ r1 ∧ Below w.heap.size w w' := by
  have HR0 := Aside0.mk hr0
  have HC0 := Aside0.mk hc0
  clear hr0 hc0
  have HB := Aside0.mk (Below.refl w.heap.size w)
  have H : ((spec_l1New.f k l0).bind fun bt476 => ((spec_l5Any.f k bt476.1 bt476.2.1 bt476.2.2).bind fun bt480 => ((spec_l1Below.f bt476.1 bt480.2.1 bt480.2.2 (wrap64 ((bt480.1.length : Int) + 2))).bind fun bt485 => (some (bt480.1, wrap64 (bt485.1 - 1)))))) = some (r1, r2) := h
  clear h
  replace H := Option.bind_eq_some_iff.mp H
  obtain ⟨⟨t476, t477, t478⟩, A20, H⟩ := H
  try dsimp only at H
  have A2 := Aside0.mk A20
  clear A20
  replace H := Option.bind_eq_some_iff.mp H
  obtain ⟨⟨t480, t483, t484⟩, A30, H⟩ := H
  try dsimp only at H
  have A3 := Aside0.mk A30
  clear A30
  replace H := Option.bind_eq_some_iff.mp H
  obtain ⟨⟨t485, t486, t487⟩, A40, H⟩ := H
  try dsimp only at H
  have A4 := Aside0.mk A40
  clear A40
  simp only [Option.some.injEq, Prod.mk.injEq] at H
  obtain ⟨rfl, rfl⟩ := H
  go_enter Try.func37, Try.ntmps37
  go_wp2_with (first | ((with_reducible refine uF (f := 58) rfl ?_); refine uX (some 7) Try.func58 #[.slice A0 l0.length c0] ?_; (with_reducible refine (spec_l1New.calls k _ _ l0 t476 t477 t478 w _ ?side1 ?side2 ?side3 A2.out).mono ?_); (case side1 => exact cq9); (case side2 => exact HR0.out); (case side3 => exact HC0.out); rintro e w5 ⟨g479, rfl, hi, hb, hb2⟩; refine ⟨_, rfl, ?_⟩; have HI479 := Aside0.mk (hi); replace HB := Aside0.mk (hb); (try clear hb); (try clear hb2); (try clear hi)) | ((with_reducible refine uF (f := 73) rfl ?_); refine uX (some 9) Try.func73 #[.pointer (some ⟨g479, 0, none⟩)] ?_; (with_reducible refine (spec_l5Any.calls k g479 t476 t477 t478 t480 t483 t484 w _ ?side1 ?side2 A3.out).mono ?_); (case side1 => repeat (first | (with_reducible first | exact HI479.out | apply IsS112.alloc | apply IsS112.drewN | apply IsS112.drew | apply IsS112.set_1 | apply IsS112.set_2) | exact HI479.out)); (case side2 => exact cq67); rintro e w6 ⟨v481, rfl, ho0, hi, hb, hk⟩; refine ⟨_, rfl, ?_⟩; have HO482 := Aside0.mk (Kd.uS ho0 (uO cq67)); replace HB := Aside0.mk (hb); replace HI479 := Aside0.mk (hi); (try clear hb); (try clear hk); (try clear hi); (try clear ho0); obtain ⟨Ao7, co7, eo7⟩ := Kd.uY HO482.out; subst eo7) | ((with_reducible refine uF (f := 74) rfl ?_); refine uX (some 15) Try.func74 #[.pointer (some ⟨g479, 0, none⟩), .int .i64 (wrap64 ((t480.length : Int) + 2))] ?_; (with_reducible refine (spec_l1Below.calls g479 t476 t483 t484 (wrap64 ((t480.length : Int) + 2)) t485 t486 t487 w _ ?side1 ?side2 A4.out).mono ?_); (case side1 => repeat (first | (with_reducible first | exact HI479.out | apply IsS112.alloc | apply IsS112.drewN | apply IsS112.drew | apply IsS112.set_1 | apply IsS112.set_2) | exact HI479.out)); (case side2 => exact cq67); rintro e w8 ⟨rfl, hi, hb, hk⟩; refine ⟨_, rfl, ?_⟩; replace HO482 := Aside0.mk (Kd.uN (Kd.R_keep (IsS112.apart (show IsS112 w _ g479 t476 t483 t484 from by repeat (first | (with_reducible first | exact HI479.out | apply IsS112.alloc | apply IsS112.drewN | apply IsS112.drew | apply IsS112.set_1 | apply IsS112.set_2) | exact HI479.out)) (uZ HO482.out) (by decide)) hk (fun _ h => h.2)) (fun _ h => h.1)); replace HB := Aside0.mk (hb); replace HI479 := Aside0.mk (hi); (try clear hb); (try clear hk); (try clear hi)))
  go_ret2
  exact ⟨_, cq3, by (with_reducible repeat (first | apply Kd.uQ | apply Kd.uR | apply Kd.uV)); exact HO482.out, cq67⟩

/-! ### spec_DrawAppendEntry: function 38 -/
def spec_DrawAppendEntry.f (k : Nat) (l0 : List Int) : Option ((List (S72)) × Int × Int × Int × Int × Int × Int × Int) := (spec_l1New.f k l0).bind fun bt489 => ((spec_l5Any.f k bt489.1 bt489.2.1 bt489.2.2).bind fun bt493 => ((spec_l1PickInt.f bt489.1 bt493.2.1 bt493.2.2 (([1, 3, 9, 20, 21, 0] : List Int))).bind fun bt501 => ((spec_l3Any.f bt489.1 bt501.2.1 bt501.2.2).bind fun bt504 => (some (bt493.1, bt501.1, bt504.1, bt504.2.1, bt504.2.2.1, bt504.2.2.2.1, bt504.2.2.2.2.1, bt504.2.2.2.2.2.1)))))
theorem spec_DrawAppendEntry.mono : ∀ a0 k, uI (spec_DrawAppendEntry.f k a0) (spec_DrawAppendEntry.f (k + 1) a0) := by
  intro a0 k
  unfold spec_DrawAppendEntry.f
  repeat' first
      | (with_reducible exact spec_l1New.mono _ _)
      | (with_reducible exact spec_l5Any.mono _ _ _ _)
      | (with_reducible exact uI.refl _)
      | (with_reducible exact uI.none _)
      | (with_reducible refine uI.ite ?_ ?_)
      | (with_reducible refine uI.bind ?_ (fun _ => ?_))
      | exact uI.none _
      | refine uI.ite ?_ ?_
      | refine uI.bind ?_ (fun _ => ?_)
set_option maxHeartbeats 8000000 in
set_option maxRecDepth 100000 in
theorem spec_DrawAppendEntry.calls (k : Nat) (A0 : Option Addr) (c0 : Nat) (l0 : List Int) (r1 : List (S72)) (r2 : Int) (r3 : Int) (r4 : Int) (r5 : Int) (r6 : Int) (r7 : Int) (r8 : Int) (w : World) (hr0 : Kd.C (Kd.int .u8) w A0 l0.length l0) (hc0 : l0.length ≤ c0) (h : spec_DrawAppendEntry.f k l0 = some (r1, r2, r3, r4, r5, r6, r7, r8)) :
    Calls Try.prog 38 #[.slice A0 l0.length c0] w fun e w' => ∃ v0_ : Value, e = .returned (.tuple #[v0_, .agg #[.int .i64 r2, .int .i64 r3, .int .i64 r4, .int .i64 r5, .int .i64 r6, .int .i64 r7, .int .i64 r8]]) ∧ Kd.R k72 72 w' w.heap.size (fun _ => True) v0_ r1 ∧ Below w.heap.size w w' := by
  have hu72 := Try.underlying72
  have HR0 := Aside0.mk hr0
  have HC0 := Aside0.mk hc0
  clear hr0 hc0
  have HB := Aside0.mk (Below.refl w.heap.size w)
  have H : ((spec_l1New.f k l0).bind fun bt489 => ((spec_l5Any.f k bt489.1 bt489.2.1 bt489.2.2).bind fun bt493 => ((spec_l1PickInt.f bt489.1 bt493.2.1 bt493.2.2 (([1, 3, 9, 20, 21, 0] : List Int))).bind fun bt501 => ((spec_l3Any.f bt489.1 bt501.2.1 bt501.2.2).bind fun bt504 => (some (bt493.1, bt501.1, bt504.1, bt504.2.1, bt504.2.2.1, bt504.2.2.2.1, bt504.2.2.2.2.1, bt504.2.2.2.2.2.1)))))) = some (r1, r2, r3, r4, r5, r6, r7, r8) := h
  clear h
  replace H := Option.bind_eq_some_iff.mp H
  obtain ⟨⟨t489, t490, t491⟩, A20, H⟩ := H
  try dsimp only at H
  have A2 := Aside0.mk A20
  clear A20
  replace H := Option.bind_eq_some_iff.mp H
  obtain ⟨⟨t493, t496, t497⟩, A30, H⟩ := H
  try dsimp only at H
  have A3 := Aside0.mk A30
  clear A30
  obtain ⟨y498, hy498⟩ : ∃ y_ : List Int, y_ = (([1, 3, 9, 20, 21, 0] : List Int)) := ⟨_, rfl⟩
  replace H : ((spec_l1PickInt.f t489 t496 t497 y498).bind fun bt501 => ((spec_l3Any.f t489 bt501.2.1 bt501.2.2).bind fun bt504 => (some (t493, bt501.1, bt504.1, bt504.2.1, bt504.2.2.1, bt504.2.2.2.1, bt504.2.2.2.2.1, bt504.2.2.2.2.2.1)))) = some (r1, r2, r3, r4, r5, r6, r7, r8) := rpl hy498 H
  have Ny498 := Aside0.mk hy498
  clear hy498
  replace H := Option.bind_eq_some_iff.mp H
  obtain ⟨⟨t501, t502, t503⟩, A40, H⟩ := H
  try dsimp only at H
  have A4 := Aside0.mk A40
  clear A40
  replace H := Option.bind_eq_some_iff.mp H
  obtain ⟨⟨t504, t505, t506, t507, t508, t509, t510, t511⟩, A50, H⟩ := H
  try dsimp only at H
  have A5 := Aside0.mk A50
  clear A50
  simp only [Option.some.injEq, Prod.mk.injEq] at H
  obtain ⟨rfl, rfl, rfl, rfl, rfl, rfl, rfl, rfl⟩ := H
  go_enter Try.func38, Try.ntmps38
  go_wp2_with (first | ((with_reducible refine uJ (N := 3) rfl ?_); refine bxe 3 #[.int .i64 0, .int .i64 0, .int .i64 0, .int .i64 0, .int .i64 0, .int .i64 0, .int .i64 0] 72 ?_; intro gb488 hg w6 hbox hb; have BK488 := Aside0.mk (hbox); have GW488 := tGe HB hg; have GE488 := tGe HB hg; replace HB := vB HB hb; clear hb hbox hg) | ((with_reducible refine uF (f := 58) rfl ?_); refine uX (some 7) Try.func58 #[.slice A0 l0.length c0] ?_; (with_reducible refine (spec_l1New.calls k _ _ l0 t489 t490 t491 w _ ?side1 ?side2 ?side3 A2.out).mono ?_); (case side1 => exact vA); (case side2 => exact HR0.out); (case side3 => exact HC0.out); rintro e w7 ⟨g492, rfl, hi, hb, hb2⟩; refine ⟨_, rfl, ?_⟩; have HI492 := Aside0.mk (hi); have NB492_488 := Aside0.mk (IsS112.ne_blk hi (blk_below (g := gb488) (o := .cells #[.int .i64 0, .int .i64 0, .int .i64 0, .int .i64 0, .int .i64 0, .int .i64 0, .int .i64 0] 72 (0, 0)) (rSB BK488.out) hb2) (by decide)); have NB488_492 := Aside0.mk (Ne.symm (IsS112.ne_blk hi (blk_below (g := gb488) (o := .cells #[.int .i64 0, .int .i64 0, .int .i64 0, .int .i64 0, .int .i64 0, .int .i64 0, .int .i64 0] 72 (0, 0)) (rSB BK488.out) hb2) (by decide))); replace BK488 := Aside0.mk (blk_below (g := gb488) (o := .cells #[.int .i64 0, .int .i64 0, .int .i64 0, .int .i64 0, .int .i64 0, .int .i64 0, .int .i64 0] 72 (0, 0)) (rSB BK488.out) hb2); replace HB := Aside0.mk (hb); (try clear hb); (try clear hb2); (try clear hi)) | ((with_reducible refine uF (f := 73) rfl ?_); refine uX (some 9) Try.func73 #[.pointer (some ⟨g492, 0, none⟩)] ?_; (with_reducible refine (spec_l5Any.calls k g492 t489 t490 t491 t493 t496 t497 w _ ?side1 ?side2 A3.out).mono ?_); (case side1 => exact cq61); (case side2 => exact cq39); rintro e w8 ⟨v494, rfl, ho0, hi, hb, hk⟩; refine ⟨_, rfl, ?_⟩; have HO495 := Aside0.mk (Kd.uS (Kd.R_newB ho0 (g := gb488) (o := .cells #[.int .i64 0, .int .i64 0, .int .i64 0, .int .i64 0, .int .i64 0, .int .i64 0, .int .i64 0] 72 (0, 0)) (rSB BK488.out)) (uO cq39)); replace BK488 := tKBlk BK488 hk NB488_492; replace HB := Aside0.mk (hb); replace HI492 := Aside0.mk (hi); (try clear hb); (try clear hk); (try clear hi); (try clear ho0)) | ((with_reducible refine uJ (N := 12) rfl ?_); refine Kd.R_lit (Kd.int .i64) _ 3 ?hg (N := 12) ?hd (xs := ([1, 3, 9, 20, 21, 0] : List Int)) (inner := [.int .i64 1, .int .i64 3, .int .i64 9, .int .i64 20, .int .i64 21, .int .i64 0]) (ok := fun _ => True) (okp := fun _ => True) ?hr ?hp (fun _ hk => hk) trivial (Below.refl _ _) (Nat.le_refl _) (by simp) ?_; (case hd => rfl); (case hg => rfl); (case hr => first | (go_simp; done) | (go_simp; rfl)); (case hp => exact (vN.one (show Kd.M (Kd.int .i64) _ _ _ 1 [.int .i64 1] from rfl) (vN.one (show Kd.M (Kd.int .i64) _ _ _ 3 [.int .i64 3] from rfl) (vN.one (show Kd.M (Kd.int .i64) _ _ _ 9 [.int .i64 9] from rfl) (vN.one (show Kd.M (Kd.int .i64) _ _ _ 20 [.int .i64 20] from rfl) (vN.one (show Kd.M (Kd.int .i64) _ _ _ 21 [.int .i64 21] from rfl) (vN.one (show Kd.M (Kd.int .i64) _ _ _ 0 [.int .i64 0] from rfl) (vN.none _ _)))))))); intro v499 w9 ho10 hb hg_ hnew_; clear hg_ hnew_; (first | rw [← Ny498.out] at ho10 | (simp only [Int.reduceToNat] at ho10; rw [← Ny498.out] at ho10)); have HO500 := Aside0.mk (Kd.uS ho10 (uO cq39)); replace HO495 := Kd.tR HO495 hb; replace BK488 := uP BK488 hb; replace HI492 := Aside0.mk (IsS112.below cq61 hb); replace HB := tBel4 HB hb; clear hb ho10; obtain ⟨Ao11, co11, eo11⟩ := Kd.uY HO500.out; subst eo11) | ((with_reducible refine uF (f := 75) rfl ?_); refine uX (some 13) Try.func75 #[.pointer (some ⟨g492, 0, none⟩), .slice Ao11 y498.length co11] ?_; (with_reducible refine (spec_l1PickInt.calls g492 t489 t496 t497 _ _ y498 t501 t502 t503 w _ ?side1 ?side2 ?side3 ?side4 ?side5 A4.out).mono ?_); (case side1 => exact cq61); (case side2 => exact cq39); (case side3 => repeat (first | exact (Kd.uK HO500.out).2.2 | (with_reducible refine Kd.vW ?_ _) | (with_reducible refine Kd.vV ?_ _) | (with_reducible refine Kd.C_drew ?_))); (case side4 => exact (Kd.uK HO500.out).2.1); (case side5 => exact far_slice (IsS112.own_ne HI492.out HO500.out (by decide))); rintro e w12 ⟨rfl, hi, hb, hk⟩; refine ⟨_, rfl, ?_⟩; replace BK488 := tKBlk BK488 hk NB488_492; replace HO495 := Aside0.mk (Kd.uN (Kd.R_keep (IsS112.apart (show IsS112 w _ g492 t489 t496 t497 from by repeat (first | (with_reducible first | exact HI492.out | apply IsS112.alloc | apply IsS112.drewN | apply IsS112.drew | apply IsS112.set_1 | apply IsS112.set_2 | refine IsS112.far ?_ NB492_488.out _) | exact HI492.out)) (uZ HO495.out) (by decide)) hk (fun _ h => h.2)) (fun _ h => h.1)); replace HO500 := Aside0.mk (Kd.uN (Kd.R_keep (IsS112.apart (show IsS112 w _ g492 t489 t496 t497 from by repeat (first | (with_reducible first | exact HI492.out | apply IsS112.alloc | apply IsS112.drewN | apply IsS112.drew | apply IsS112.set_1 | apply IsS112.set_2 | refine IsS112.far ?_ NB492_488.out _) | exact HI492.out)) (uZ HO500.out) (by decide)) hk (fun _ h => h.2)) (fun _ h => h.1)); replace HB := Aside0.mk (hb); replace HI492 := Aside0.mk (hi); (try clear hb); (try clear hk); (try clear hi)) | ((with_reducible refine uF (f := 60) rfl ?_); refine uX (some 15) Try.func60 #[.pointer (some ⟨g492, 0, none⟩)] ?_; (with_reducible refine (spec_l3Any.calls g492 t489 t502 t503 t504 t505 t506 t507 t508 t509 t510 t511 w _ ?side1 ?side2 A5.out).mono ?_); (case side1 => exact cq61); (case side2 => exact cq39); rintro e w13 ⟨rfl, hi, hb, hk⟩; refine ⟨_, rfl, ?_⟩; replace BK488 := tKBlk BK488 hk NB488_492; replace HO495 := Aside0.mk (Kd.uN (Kd.R_keep (IsS112.apart (show IsS112 w _ g492 t489 t502 t503 from by repeat (first | (with_reducible first | exact HI492.out | apply IsS112.alloc | apply IsS112.drewN | apply IsS112.drew | apply IsS112.set_1 | apply IsS112.set_2 | refine IsS112.far ?_ NB492_488.out _) | exact HI492.out)) (uZ HO495.out) (by decide)) hk (fun _ h => h.2)) (fun _ h => h.1)); replace HO500 := Aside0.mk (Kd.uN (Kd.R_keep (IsS112.apart (show IsS112 w _ g492 t489 t502 t503 from by repeat (first | (with_reducible first | exact HI492.out | apply IsS112.alloc | apply IsS112.drewN | apply IsS112.drew | apply IsS112.set_1 | apply IsS112.set_2 | refine IsS112.far ?_ NB492_488.out _) | exact HI492.out)) (uZ HO500.out) (by decide)) hk (fun _ h => h.2)) (fun _ h => h.1)); replace HB := Aside0.mk (hb); replace HI492 := Aside0.mk (hi); (try clear hb); (try clear hk); (try clear hi); have hnb14 := NB488_492.out; have hnc14 := NB492_488.out; obtain ⟨hcz15_0, hcz15_1, hcz15_2, hcz15_3, hcz15_4, hcz15_5, hcz15_6, hfz15_0, hfz15_1, hfz15_2, hfz15_3, hfz15_4, hfz15_5, hfz15_6⟩ := cz7 BK488))
  refine bodyPost_ret (results_tc rfl _ _ gb488 72 #[.int .i64 t501, .int .i64 t504, .int .i64 t505, .int .i64 t506, .int .i64 t507, .int .i64 t508, .int .i64 t509] (0, 0) _ rfl (by (with_reducible repeat (first | refine uC ?_ _ | refine uE ?_ | refine uD ?_ _)); refine uL (cs := #[.int .i64 t501, .int .i64 t504, .int .i64 t505, .int .i64 t506, .int .i64 t507, .int .i64 t508, .int .i64 0]) ?_ 6 _ rfl; (with_reducible repeat (first | refine uC ?_ _ | refine uE ?_ | refine uD ?_ _)); refine uL (cs := #[.int .i64 t501, .int .i64 t504, .int .i64 t505, .int .i64 t506, .int .i64 t507, .int .i64 0, .int .i64 0]) ?_ 5 _ rfl; (with_reducible repeat (first | refine uC ?_ _ | refine uE ?_ | refine uD ?_ _)); refine uL (cs := #[.int .i64 t501, .int .i64 t504, .int .i64 t505, .int .i64 t506, .int .i64 0, .int .i64 0, .int .i64 0]) ?_ 4 _ rfl; (with_reducible repeat (first | refine uC ?_ _ | refine uE ?_ | refine uD ?_ _)); refine uL (cs := #[.int .i64 t501, .int .i64 t504, .int .i64 t505, .int .i64 0, .int .i64 0, .int .i64 0, .int .i64 0]) ?_ 3 _ rfl; (with_reducible repeat (first | refine uC ?_ _ | refine uE ?_ | refine uD ?_ _)); refine uL (cs := #[.int .i64 t501, .int .i64 t504, .int .i64 0, .int .i64 0, .int .i64 0, .int .i64 0, .int .i64 0]) ?_ 2 _ rfl; (with_reducible repeat (first | refine uC ?_ _ | refine uE ?_ | refine uD ?_ _)); refine uL (cs := #[.int .i64 t501, .int .i64 0, .int .i64 0, .int .i64 0, .int .i64 0, .int .i64 0, .int .i64 0]) ?_ 1 _ rfl; (with_reducible repeat (first | refine uC ?_ _ | refine uE ?_ | refine uD ?_ _)); refine uL (cs := #[.int .i64 0, .int .i64 0, .int .i64 0, .int .i64 0, .int .i64 0, .int .i64 0, .int .i64 0]) ?_ 0 _ rfl; (with_reducible repeat (first | refine uC ?_ _ | refine uE ?_ | refine uD ?_ _)); exact BK488.out) Try.underlying72 rfl (by kernel_rfl)) rfl ?_
  exact ⟨_, cq3, by (with_reducible repeat (first | apply Kd.uQ | apply Kd.uR | apply Kd.uV)); exact Kd.uN (Kd.uM (p := ⟨gb488, 6, none⟩) (Kd.uM (p := ⟨gb488, 5, none⟩) (Kd.uM (p := ⟨gb488, 4, none⟩) (Kd.uM (p := ⟨gb488, 3, none⟩) (Kd.uM (p := ⟨gb488, 2, none⟩) (Kd.uM (p := ⟨gb488, 1, none⟩) (Kd.uM (p := ⟨gb488, 0, none⟩) (Kd.uN HO495.out (fun k_ hk => (⟨hk, hk.2⟩ : _ ∧ k_ ≠ gb488))) (fun _ hk => hk.2) (.int .i64 t501)) (fun _ hk => hk.2) (.int .i64 t504)) (fun _ hk => hk.2) (.int .i64 t505)) (fun _ hk => hk.2) (.int .i64 t506)) (fun _ hk => hk.2) (.int .i64 t507)) (fun _ hk => hk.2) (.int .i64 t508)) (fun _ hk => hk.2) (.int .i64 t509)) (fun _ hk => trivial), cq39⟩

end Go.Proofs.Ytcikahnmiiichaa.N
