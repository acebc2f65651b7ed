/- Go functions as Lean functions, and the proof that the code comes to them: written by a program of this session out of the translation. -/
import Derived.Test.YtcikahnmiiichaaDoorK0
import Derived.Test.YtcikahnmiiichaaDoorK1
import Derived.Test.YtcikahnmiiichaaDoorK4
import Derived.Test.YtcikahnmiiichaaDoorK7
import Derived.Test.YtcikahnmiiichaaDoorK13
import Derived.Test.YtcikahnmiiichaaDoorK15
namespace Go.Proofs.YtcikahnmiiichaaDoor.K
open List renaming setIfInBounds_toArray → vZ, set_cons_zero → yA, set_cons_succ → yB
open Go.World renaming block_lt_of_cell? → yF
open Go.Proofs.YtcikahnmiiichaaDoor.Given
open Go.RowKit Go.Proofs.YtcikahnmiiichaaDoorW.PrintWords Go.Proofs.YtcikahnmiiichaaDoorW.PrintLast Go.Proofs.YtcikahnmiiichaaDoorW.PrintMore
attribute [local go_sem] max2_int min2_int max_two min_two vW vV max_four min_four   -- for this text's walks alone
set_option linter.unusedVariables false
set_option linter.unusedSimpArgs false

/-! ### spec_l7Snap: function 62 -/
def spec_l7Snap.f (k : Nat) (s0_0 : List Int) (s0_1 : Int) (s0_2 : Int) : Option (Int × Int × List Int × (List (S97)) × Int × Int) := (spec_l5Log.f k s0_0 s0_1 s0_2).bind fun bt413 => ((spec_l1Below.f s0_0 bt413.2.1 bt413.2.2 (wrap64 ((bt413.1.length : Int) + 1))).bind fun bt418 => ((spec_TakeSnapshot.f k bt413.1 bt418.1).bind fun bt421 => ((spec_l1Below.f s0_0 bt418.2.1 bt418.2.2 14).bind fun bt431 => (if bt431.1 = 0 then ((spec_l1PickInt.f s0_0 bt431.2.1 bt431.2.2 (([(-1), 16, 17] : List Int))).bind fun bt437 => (some (bt437.1, bt421.2.1, bt421.2.2.1, bt421.2.2.2.1, bt437.2.1, bt437.2.2))) else (if bt431.1 = 1 then ((spec_l1PickInt.f s0_0 bt431.2.1 bt431.2.2 (([(-1), 9972, 9973] : List Int))).bind fun bt443 => (some (bt421.1, bt443.1, bt421.2.2.1, bt421.2.2.2.1, bt443.2.1, bt443.2.2))) else (if bt431.1 = 2 then ((spec_l4Any.f k s0_0 bt431.2.1 bt431.2.2).bind fun bt446 => (some (bt421.1, bt421.2.1, bt446.1, bt446.2.1, bt446.2.2.1, bt446.2.2.2))) else (some (bt421.1, bt421.2.1, bt421.2.2.1, bt421.2.2.2.1, bt431.2.1, bt431.2.2))))))))
theorem spec_l7Snap.mono : ∀ a0 a1 a2 k, uA (spec_l7Snap.f k a0 a1 a2) (spec_l7Snap.f (k + 1) a0 a1 a2) := by
 intro a0 a1 a2 k
 unfold spec_l7Snap.f
 repeat' first
   | (with_reducible exact spec_TakeSnapshot.mono _ _ _)
   | (with_reducible exact spec_l4Any.mono _ _ _ _)
   | (with_reducible exact spec_l5Log.mono _ _ _ _)
   | (with_reducible exact uA.refl _)
   | (with_reducible exact uA.none _)
   | (with_reducible refine uA.vA ?_ ?_)
   | (with_reducible refine uA.bind ?_ (fun _ => ?_))
   | exact uA.none _
   | refine uA.vA ?_ ?_
   | refine uA.bind ?_ (fun _ => ?_)
set_option maxHeartbeats 8000000 in
set_option maxRecDepth 100000 in
theorem spec_l7Snap.calls (k : Nat) (g : Nat) (s0_0 : List Int) (s0_1 : Int) (s0_2 : Int) (r1 : Int) (r2 : Int) (r3 : List Int) (r4 : List (S97)) (r5 : Int) (r6 : Int) (w0 w : World) (hI : IsS110 w0 w g s0_0 s0_1 s0_2) (hB : Below w0.heap.size w0 w) (h : spec_l7Snap.f k s0_0 s0_1 s0_2 = some (r1, r2, r3, r4, r5, r6)) :
  Calls Tryd.prog 62 #[.pointer (some ⟨g, 0, none⟩)] w fun e w' => ∃ v2_ v3_ : Value, e = .returned (.agg #[.int .i64 r1, .int .i64 r2, v2_, v3_]) ∧ Kd.Q (Kd.int .i64) 3 w' w.heap.size (fun _ => True) v2_ r3 ∧ Kd.R k97 97 w' w.heap.size (fun _ => True) v3_ r4 ∧ IsS110 w0 w' g s0_0 r5 r6 ∧ Below w0.heap.size w0 w' ∧ uV w w' g none := by
 have hu83 := Tryd.underlying83
 have hu56 := Tryd.underlying56
 have HI0 := Aside0.mk hI
 have HK := Aside0.mk (uV.refl w g none)
 have HL := Aside0.mk hB.size
 clear hI
 have HW0 := Aside0.mk hB.size
 have HB := Aside0.mk hB
 clear hB
 have H : ((spec_l5Log.f k s0_0 s0_1 s0_2).bind fun bt413 => ((spec_l1Below.f s0_0 bt413.2.1 bt413.2.2 (wrap64 ((bt413.1.length : Int) + 1))).bind fun bt418 => ((spec_TakeSnapshot.f k bt413.1 bt418.1).bind fun bt421 => ((spec_l1Below.f s0_0 bt418.2.1 bt418.2.2 14).bind fun bt431 => (if bt431.1 = 0 then ((spec_l1PickInt.f s0_0 bt431.2.1 bt431.2.2 (([(-1), 16, 17] : List Int))).bind fun bt437 => (some (bt437.1, bt421.2.1, bt421.2.2.1, bt421.2.2.2.1, bt437.2.1, bt437.2.2))) else (if bt431.1 = 1 then ((spec_l1PickInt.f s0_0 bt431.2.1 bt431.2.2 (([(-1), 9972, 9973] : List Int))).bind fun bt443 => (some (bt421.1, bt443.1, bt421.2.2.1, bt421.2.2.2.1, bt443.2.1, bt443.2.2))) else (if bt431.1 = 2 then ((spec_l4Any.f k s0_0 bt431.2.1 bt431.2.2).bind fun bt446 => (some (bt421.1, bt421.2.1, bt446.1, bt446.2.1, bt446.2.2.1, bt446.2.2.2))) else (some (bt421.1, bt421.2.1, bt421.2.2.1, bt421.2.2.2.1, bt431.2.1, bt431.2.2))))))))) = some (r1, r2, r3, r4, r5, r6) := h
 clear h
 replace H := Option.bind_eq_some_iff.mp H
 obtain ⟨⟨t413, t416, t417⟩, A20, H⟩ := H
 try dsimp only at H
 have A2 := Aside0.mk A20
 clear A20
 replace H := Option.bind_eq_some_iff.mp H
 obtain ⟨⟨t418, t419, t420⟩, A30, H⟩ := H
 try dsimp only at H
 have A3 := Aside0.mk A30
 clear A30
 replace H := Option.bind_eq_some_iff.mp H
 obtain ⟨⟨t421, t422, t423, t426, t429⟩, A40, H⟩ := H
 try dsimp only at H
 have A4 := Aside0.mk A40
 clear A40
 replace H := Option.bind_eq_some_iff.mp H
 obtain ⟨⟨t431, t432, t433⟩, A50, H⟩ := H
 try dsimp only at H
 have A5 := Aside0.mk A50
 clear A50
 go_enter Tryd.func62, Tryd.ntmps62
 go_wp2_with (first | ((with_reducible refine uQ (N := 2) rfl ?_); refine bxe 2 #[.int .i64 0, .int .i64 0, .slice none 0 0, .slice none 0 0] 83 ?_; intro gb412 hg w8 hbox hb; have BK412 := Aside0.mk (hbox); have GW412 := tKGe HK hg; have GE412 := tKW HW0 HK hg; have NB0_412 := Aside0.mk ((by rw [hg]; exact Nat.ne_of_lt (IsS110.lt (show IsS110 w0 _ g s0_0 s0_1 s0_2 from by repeat (first | (with_reducible first | exact HI0.out | apply IsS110.alloc | apply IsS110.drewN | apply IsS110.drew | apply IsS110.set_1 | apply IsS110.set_2) | exact HI0.out))) : g ≠ gb412)); have NB412_0 := Aside0.mk ((by rw [hg]; exact Nat.ne_of_gt (IsS110.lt (show IsS110 w0 _ g s0_0 s0_1 s0_2 from by repeat (first | (with_reducible first | exact HI0.out | apply IsS110.alloc | apply IsS110.drewN | apply IsS110.drew | apply IsS110.set_1 | apply IsS110.set_2) | exact HI0.out))) : gb412 ≠ g)); replace HI0 := Aside0.mk (IsS110.below cq3 hb); replace HK := uX HK (uV.of_below hb g none); replace HB := tBel1 HB hb; clear hb hbox hg; refine ?roundEnd))
 case roundEnd =>
 by_cases c6 : t431 = 0
 ·rw [if_pos c6] at H
  have c6b0 := beq_iff_eq.mpr c6
  have c6b1 := bne_eq_false_iff_eq.mpr c6
  clear c6
  obtain ⟨y434, hy434⟩ : ∃ y_ : List Int, y_ = (([(-1), 16, 17] : List Int)) := ⟨_, rfl⟩
  replace H : ((spec_l1PickInt.f s0_0 t432 t433 y434).bind fun bt437 => (some (bt437.1, t422, t423, t426, bt437.2.1, bt437.2.2))) = some (r1, r2, r3, r4, r5, r6) := rpl hy434 H
  have Ny434 := Aside0.mk hy434
  clear hy434
  replace H := Option.bind_eq_some_iff.mp H
  obtain ⟨⟨t437, t438, t439⟩, A70, H⟩ := H
  try dsimp only at H
  have A7 := Aside0.mk A70
  clear A70
  simp only [Option.some.injEq, Prod.mk.injEq] at H
  obtain ⟨rfl, rfl, rfl, rfl, rfl, rfl⟩ := H
  go_wp2_with (first | ((with_reducible refine uB (f := 92) rfl ?_); refine uL (some 7) Tryd.func92 #[.pointer (some ⟨g, 0, none⟩)] ?_; (with_reducible refine (spec_l5Log.calls k g s0_0 s0_1 s0_2 t413 t416 t417 w0 _ ?side1 ?side2 A2.out).mono ?_); (case side1 => exact cq15); (case side2 => exact cq1); rintro e w9 ⟨v414, rfl, ho0, hi, hb, hk⟩; refine ⟨_, rfl, ?_⟩; have HO415 := Aside0.mk (Kd.uN ho0 (vG (w := w) (g := g) (row := none) cq4)); replace BK412 := tKBlk BK412 hk NB412_0; replace HK := uX HK hk; replace HB := Aside0.mk (hb); replace HI0 := Aside0.mk (hi); (try clear hb); (try clear hk); (try clear hi); (try clear ho0); obtain ⟨Ao10, co10, eo10⟩ := Kd.uS HO415.out; subst eo10) | ((with_reducible refine uB (f := 52) rfl ?_); refine uL (some 14) Tryd.func52 #[.pointer (some ⟨g, 0, none⟩), .int .i64 (wrap64 ((t413.length : Int) + 1))] ?_; (with_reducible refine (spec_l1Below.calls g s0_0 t416 t417 (wrap64 ((t413.length : Int) + 1)) t418 t419 t420 w0 _ ?side1 ?side2 A3.out).mono ?_); (case side1 => exact cq15); (case side2 => exact cq1); rintro e w11 ⟨rfl, hi, hb, hk⟩; refine ⟨_, rfl, ?_⟩; replace BK412 := tKBlk BK412 hk NB412_0; replace HO415 := Aside0.mk (Kd.uG (Kd.vB (IsS110.apart (show IsS110 w0 _ g s0_0 t416 t417 from by repeat (first | (with_reducible first | exact HI0.out | apply IsS110.alloc | apply IsS110.drewN | apply IsS110.drew | apply IsS110.set_1 | apply IsS110.set_2 | refine IsS110.far ?_ NB0_412.out _) | exact HI0.out)) (uT HO415.out) (by decide)) hk (fun _ h => h.2)) (fun _ h => h.1)); replace HK := uX HK hk; replace HB := Aside0.mk (hb); replace HI0 := Aside0.mk (hi); (try clear hb); (try clear hk); (try clear hi)) | ((with_reducible refine uB (f := 98) rfl ?_); refine uL (some 15) Tryd.func98 #[.slice Ao10 t413.length co10, .int .i64 t418] ?_; (with_reducible refine (spec_TakeSnapshot.calls k _ _ t413 t418 t421 t422 t423 t426 t429 _ ?side1 ?side2 A4.out).mono ?_); (case side1 => exact cq73); (case side2 => exact (Kd.uY HO415.out).2.1); rintro e w12 ⟨v424, v427, rfl, ho0, ho1, hb⟩; refine ⟨_, rfl, ?_⟩; have HO425 := Aside0.mk (Kd.uN ho0 (vG (w := w) (g := g) (row := none) cq4)); have HO428 := Aside0.mk (Kd.uN ho1 (vG (w := w) (g := g) (row := none) cq4)); replace HO415 := Kd.tR HO415 hb; replace HI0 := Aside0.mk (IsS110.below cq15 hb); replace BK412 := vI BK412 hb; replace HK := uX HK (uV.of_below hb g none); replace HB := tBel1 HB hb; (try clear hb); (try clear ho0); (try clear ho1)) | ((with_reducible refine uQ (N := 4) rfl ?_); refine bxe 4 #[.int .i64 0, .int .i64 0, .slice none 0 0, .slice none 0 0] 83 ?_; intro gb430 hg w13 hbox hb; have BK430 := Aside0.mk (hbox); have GW430 := tKGe HK hg; have GE430 := tKW HW0 HK hg; have NB412_430 := tNl BK412 hg; have NB430_412 := tNg BK412 hg; have NB0_430 := Aside0.mk ((by rw [hg]; exact Nat.ne_of_lt (IsS110.lt (show IsS110 w0 _ g s0_0 t419 t420 from by repeat (first | (with_reducible first | exact HI0.out | apply IsS110.alloc | apply IsS110.drewN | apply IsS110.drew | apply IsS110.set_1 | apply IsS110.set_2 | refine IsS110.far ?_ NB0_412.out _) | exact HI0.out))) : g ≠ gb430)); have NB430_0 := Aside0.mk ((by rw [hg]; exact Nat.ne_of_gt (IsS110.lt (show IsS110 w0 _ g s0_0 t419 t420 from by repeat (first | (with_reducible first | exact HI0.out | apply IsS110.alloc | apply IsS110.drewN | apply IsS110.drew | apply IsS110.set_1 | apply IsS110.set_2 | refine IsS110.far ?_ NB0_412.out _) | exact HI0.out))) : gb430 ≠ g)); replace HO415 := Kd.tR HO415 hb; replace HO425 := Kd.tR HO425 hb; replace HO428 := Kd.tR HO428 hb; replace HI0 := Aside0.mk (IsS110.below cq15 hb); replace BK412 := vI BK412 hb; replace HK := uX HK (uV.of_below hb g none); replace HB := tBel1 HB hb; clear hb hbox hg; have hnb14 := NB430_412.out; have hnc14 := NB412_430.out; have hnb15 := NB430_0.out; have hnc15 := NB0_430.out; obtain ⟨hcz16_0, hcz16_1, hcz16_2, hcz16_3, hfz16_0, hfz16_1, hfz16_2, hfz16_3⟩ := cz4 BK430; obtain ⟨Ao17, co17, eo17⟩ := Kd.uS HO425.out; subst eo17; obtain ⟨Ao18, co18, eo18⟩ := Kd.uS HO428.out; subst eo18) | ((with_reducible refine uB (f := 52) rfl ?_); refine uL (some 19) Tryd.func52 #[.pointer (some ⟨g, 0, none⟩), .int .i64 14] ?_; (with_reducible refine (spec_l1Below.calls g s0_0 t419 t420 14 t431 t432 t433 w0 _ ?side1 ?side2 A5.out).mono ?_); (case side1 => exact cq14); (case side2 => exact cq1); rintro e w19 ⟨rfl, hi, hb, hk⟩; refine ⟨_, rfl, ?_⟩; replace BK412 := tKBlkF BK412 hk NB412_0; replace HO415 := Aside0.mk (Kd.uG (Kd.vB (IsS110.apart (show IsS110 w0 _ g s0_0 t419 t420 from by repeat (first | (with_reducible first | exact HI0.out | apply IsS110.alloc | apply IsS110.drewN | apply IsS110.drew | apply IsS110.set_1 | apply IsS110.set_2 | refine IsS110.far ?_ NB0_412.out _ | refine IsS110.far ?_ NB0_430.out _) | exact HI0.out)) (by (with_reducible repeat (first | apply Kd.uK | apply Kd.uJ | apply Kd.uO)); exact (Kd.uG (Kd.uI (p := ⟨gb430, 3, none⟩) (Kd.uI (p := ⟨gb430, 2, none⟩) (Kd.uI (p := ⟨gb430, 1, none⟩) (Kd.uI (p := ⟨gb430, 0, none⟩) (Kd.vE HO415.out BK430.out (by decide)) (fun _ hk => hk.2) (.int .i64 t421)) (fun _ hk => hk.2) (.int .i64 t422)) (fun _ hk => hk.2) (.slice Ao17 t423.length co17)) (fun _ hk => hk.2) (.slice Ao18 t426.length co18)) (fun _ h_ => h_.1))) (by decide)) hk (fun _ h => h.2)) (fun _ h => h.1)); replace HO425 := Aside0.mk (Kd.uG (Kd.vB (IsS110.apart (show IsS110 w0 _ g s0_0 t419 t420 from by repeat (first | (with_reducible first | exact HI0.out | apply IsS110.alloc | apply IsS110.drewN | apply IsS110.drew | apply IsS110.set_1 | apply IsS110.set_2 | refine IsS110.far ?_ NB0_412.out _ | refine IsS110.far ?_ NB0_430.out _) | exact HI0.out)) (by (with_reducible repeat (first | apply Kd.uK | apply Kd.uJ | apply Kd.uO)); exact (Kd.uG (Kd.uI (p := ⟨gb430, 3, none⟩) (Kd.uI (p := ⟨gb430, 2, none⟩) (Kd.uI (p := ⟨gb430, 1, none⟩) (Kd.uI (p := ⟨gb430, 0, none⟩) (Kd.vE HO425.out BK430.out (by decide)) (fun _ hk => hk.2) (.int .i64 t421)) (fun _ hk => hk.2) (.int .i64 t422)) (fun _ hk => hk.2) (.slice Ao17 t423.length co17)) (fun _ hk => hk.2) (.slice Ao18 t426.length co18)) (fun _ h_ => h_.1))) (by decide)) hk (fun _ h => h.2)) (fun _ h => h.1)); replace HO428 := Aside0.mk (Kd.uG (Kd.vB (IsS110.apart (show IsS110 w0 _ g s0_0 t419 t420 from by repeat (first | (with_reducible first | exact HI0.out | apply IsS110.alloc | apply IsS110.drewN | apply IsS110.drew | apply IsS110.set_1 | apply IsS110.set_2 | refine IsS110.far ?_ NB0_412.out _ | refine IsS110.far ?_ NB0_430.out _) | exact HI0.out)) (by (with_reducible repeat (first | apply Kd.uK | apply Kd.uJ | apply Kd.uO)); exact (Kd.uG (Kd.uI (p := ⟨gb430, 3, none⟩) (Kd.uI (p := ⟨gb430, 2, none⟩) (Kd.uI (p := ⟨gb430, 1, none⟩) (Kd.uI (p := ⟨gb430, 0, none⟩) (Kd.vE HO428.out BK430.out (by decide)) (fun _ hk => hk.2) (.int .i64 t421)) (fun _ hk => hk.2) (.int .i64 t422)) (fun _ hk => hk.2) (.slice Ao17 t423.length co17)) (fun _ hk => hk.2) (.slice Ao18 t426.length co18)) (fun _ h_ => h_.1))) (by decide)) hk (fun _ h => h.2)) (fun _ h => h.1)); replace BK430 := tKBlkP BK430 #[.int .i64 t421, .int .i64 t422, .slice Ao17 t423.length co17, .slice Ao18 t426.length co18] hk NB430_0; replace HK := uX HK hk; replace HB := Aside0.mk (hb); replace HI0 := Aside0.mk (hi); (try clear hb); (try clear hk); (try clear hi)) | ((with_reducible refine uQ (N := 23) rfl ?_); refine Kd.R_lit (Kd.int .i64) _ 3 ?hg (N := 23) ?hd (xs := ([(-1), 16, 17] : List Int)) (inner := [.int .i64 (-1), .int .i64 16, .int .i64 17]) (ok := fun _ => True) (okp := fun _ => True) ?hr ?hp (fun _ hk => hk) trivial (Below.refl _ _) (Nat.le_refl _) (by simp) ?_; (case hd => rfl); (case hg => rfl); (case hr => first | (go_simp; done) | (go_simp; rfl)); (case hp => exact (Reps.one (show Kd.M (Kd.int .i64) _ _ _ (-1) [.int .i64 (-1)] from rfl) (Reps.one (show Kd.M (Kd.int .i64) _ _ _ 16 [.int .i64 16] from rfl) (Reps.one (show Kd.M (Kd.int .i64) _ _ _ 17 [.int .i64 17] from rfl) (Reps.none _ _))))); intro v435 w20 ho21 hb hg_ hnew_; clear hg_ hnew_; (first | rw [← Ny434.out] at ho21 | (simp only [Int.reduceToNat] at ho21; rw [← Ny434.out] at ho21)); have HO436 := Aside0.mk (Kd.uN (Kd.vJ ho21 (Kd.R_lt (uT HO425.out))) (vG (w := w) (g := g) (row := none) cq4)); replace HO415 := Kd.tR HO415 hb; replace HO425 := Aside0.mk (Kd.vF (uT HO425.out) (Kd.vK ho21) hb); replace HO428 := Kd.tR HO428 hb; replace HI0 := Aside0.mk (IsS110.below cq14 hb); replace BK412 := vI BK412 hb; replace BK430 := vI BK430 hb; replace HK := uX HK (uV.of_below hb g none); replace HB := tBel1 HB hb; clear hb ho21; obtain ⟨Ao22, co22, eo22⟩ := Kd.uS HO436.out; subst eo22) | ((with_reducible refine uB (f := 54) rfl ?_); refine uL (some 24) Tryd.func54 #[.pointer (some ⟨g, 0, none⟩), .slice Ao22 y434.length co22] ?_; (with_reducible refine (spec_l1PickInt.calls g s0_0 t432 t433 _ _ y434 t437 t438 t439 w0 _ ?side1 ?side2 ?side3 ?side4 ?side5 A7.out).mono ?_); (case side1 => exact cq14); (case side2 => exact cq1); (case side3 => repeat (first | exact (Kd.uY HO436.out).2.2 | (with_reducible refine Kd.C_alloc ?_ _) | (with_reducible refine Kd.C_drewN ?_ _) | (with_reducible refine Kd.C_drew ?_))); (case side4 => exact (Kd.uY HO436.out).2.1); (case side5 => exact far_slice (IsS110.own_ne HI0.out HO436.out (by decide))); rintro e w23 ⟨rfl, hi, hb, hk⟩; refine ⟨_, rfl, ?_⟩; replace BK412 := tKBlk BK412 hk NB412_0; replace HO415 := Aside0.mk (Kd.uG (Kd.vB (IsS110.apart (show IsS110 w0 _ g s0_0 t432 t433 from by repeat (first | (with_reducible first | exact HI0.out | apply IsS110.alloc | apply IsS110.drewN | apply IsS110.drew | apply IsS110.set_1 | apply IsS110.set_2 | refine IsS110.far ?_ NB0_412.out _ | refine IsS110.far ?_ NB0_430.out _) | exact HI0.out)) (uT HO415.out) (by decide)) hk (fun _ h => h.2)) (fun _ h => h.1)); replace HO425 := Aside0.mk (Kd.uG (Kd.vB (IsS110.apart (show IsS110 w0 _ g s0_0 t432 t433 from by repeat (first | (with_reducible first | exact HI0.out | apply IsS110.alloc | apply IsS110.drewN | apply IsS110.drew | apply IsS110.set_1 | apply IsS110.set_2 | refine IsS110.far ?_ NB0_412.out _ | refine IsS110.far ?_ NB0_430.out _) | exact HI0.out)) (uT HO425.out) (by decide)) hk (fun _ h => h.2)) (fun _ h => h.1)); replace HO428 := Aside0.mk (Kd.uG (Kd.vB (IsS110.apart (show IsS110 w0 _ g s0_0 t432 t433 from by repeat (first | (with_reducible first | exact HI0.out | apply IsS110.alloc | apply IsS110.drewN | apply IsS110.drew | apply IsS110.set_1 | apply IsS110.set_2 | refine IsS110.far ?_ NB0_412.out _ | refine IsS110.far ?_ NB0_430.out _) | exact HI0.out)) (uT HO428.out) (by decide)) hk (fun _ h => h.2)) (fun _ h => h.1)); replace BK430 := tKBlk BK430 hk NB430_0; replace HO436 := Aside0.mk (Kd.uG (Kd.vB (IsS110.apart (show IsS110 w0 _ g s0_0 t432 t433 from by repeat (first | (with_reducible first | exact HI0.out | apply IsS110.alloc | apply IsS110.drewN | apply IsS110.drew | apply IsS110.set_1 | apply IsS110.set_2 | refine IsS110.far ?_ NB0_412.out _ | refine IsS110.far ?_ NB0_430.out _) | exact HI0.out)) (uT HO436.out) (by decide)) hk (fun _ h => h.2)) (fun _ h => h.1)); replace HK := uX HK hk; replace HB := Aside0.mk (hb); replace HI0 := Aside0.mk (hi); (try clear hb); (try clear hk); (try clear hi); obtain ⟨hcz24_0, hcz24_1, hcz24_2, hcz24_3, hfz24_0, hfz24_1, hfz24_2, hfz24_3⟩ := cz4 BK430; have hnb25 := NB412_0.out; have hnc25 := NB0_412.out; obtain ⟨hcz26_0, hcz26_1, hcz26_2, hcz26_3, hfz26_0, hfz26_1, hfz26_2, hfz26_3⟩ := cz4 BK412))
  refine bodyPost_ret (results_cell_row rfl _ _ gb412 83 #[.int .i64 t437, .int .i64 t422, .slice Ao17 t423.length co17, .slice Ao18 t426.length co18] (0, 0) _ rfl (by (with_reducible repeat (first | refine uF ?_ _ | refine uE ?_ | refine uD ?_ _)); refine uZ (cs := #[.int .i64 t437, .int .i64 t422, .slice Ao17 t423.length co17, .slice none 0 0]) ?_ 3 _ rfl; (with_reducible repeat (first | refine uF ?_ _ | refine uE ?_ | refine uD ?_ _)); refine uZ (cs := #[.int .i64 t437, .int .i64 t422, .slice none 0 0, .slice none 0 0]) ?_ 2 _ rfl; (with_reducible repeat (first | refine uF ?_ _ | refine uE ?_ | refine uD ?_ _)); refine uZ (cs := #[.int .i64 t437, .int .i64 0, .slice none 0 0, .slice none 0 0]) ?_ 1 _ rfl; (with_reducible repeat (first | refine uF ?_ _ | refine uE ?_ | refine uD ?_ _)); refine uZ (cs := #[.int .i64 0, .int .i64 0, .slice none 0 0, .slice none 0 0]) ?_ 0 _ rfl; (with_reducible repeat (first | refine uF ?_ _ | refine uE ?_ | refine uD ?_ _)); refine blk_far ?_ NB412_430.out _; (with_reducible repeat (first | refine uF ?_ _ | refine uE ?_ | refine uD ?_ _)); exact BK412.out) Tryd.underlying83 rfl (by kernel_rfl)) rfl ?_
  exact ⟨_, _, cq5, Kd.Q_of_R (by (with_reducible repeat (first | apply Kd.uK | apply Kd.uJ | apply Kd.uO)); exact Kd.uG (Kd.uI (p := ⟨gb412, 3, none⟩) (Kd.uI (p := ⟨gb412, 2, none⟩) (Kd.uI (p := ⟨gb412, 1, none⟩) (Kd.uI (p := ⟨gb412, 0, none⟩) (Kd.uI (p := ⟨gb430, 0, none⟩) (Kd.vE (Kd.vE HO425.out BK430.out (by decide)) BK412.out (by decide)) (fun _ hk => hk.1.2) (.int .i64 t437)) (fun _ hk => hk.2) (.int .i64 t437)) (fun _ hk => hk.2) (.int .i64 t422)) (fun _ hk => hk.2) (.slice Ao17 t423.length co17)) (fun _ hk => hk.2) (.slice Ao18 t426.length co18)) (fun _ hk => trivial)), by (with_reducible repeat (first | apply Kd.uK | apply Kd.uJ | apply Kd.uO)); exact Kd.uG (Kd.uI (p := ⟨gb412, 3, none⟩) (Kd.uI (p := ⟨gb412, 2, none⟩) (Kd.uI (p := ⟨gb412, 1, none⟩) (Kd.uI (p := ⟨gb412, 0, none⟩) (Kd.uI (p := ⟨gb430, 0, none⟩) (Kd.vE (Kd.vE HO428.out BK430.out (by decide)) BK412.out (by decide)) (fun _ hk => hk.1.2) (.int .i64 t437)) (fun _ hk => hk.2) (.int .i64 t437)) (fun _ hk => hk.2) (.int .i64 t422)) (fun _ hk => hk.2) (.slice Ao17 t423.length co17)) (fun _ hk => hk.2) (.slice Ao18 t426.length co18)) (fun _ hk => trivial), cq14, cq1, cq4⟩
 rw [if_neg c6] at H
 have c6b0 := beq_eq_false_iff_ne.mpr c6
 have c6b1 := bne_iff_ne.mpr c6
 by_cases c27 : t431 = 1
 ·rw [if_pos c27] at H
  have c27b0 := beq_iff_eq.mpr c27
  have c27b1 := bne_eq_false_iff_eq.mpr c27
  clear c27
  obtain ⟨y440, hy440⟩ : ∃ y_ : List Int, y_ = (([(-1), 9972, 9973] : List Int)) := ⟨_, rfl⟩
  replace H : ((spec_l1PickInt.f s0_0 t432 t433 y440).bind fun bt443 => (some (t421, bt443.1, t423, t426, bt443.2.1, bt443.2.2))) = some (r1, r2, r3, r4, r5, r6) := rpl hy440 H
  have Ny440 := Aside0.mk hy440
  clear hy440
  replace H := Option.bind_eq_some_iff.mp H
  obtain ⟨⟨t443, t444, t445⟩, A280, H⟩ := H
  try dsimp only at H
  have A28 := Aside0.mk A280
  clear A280
  simp only [Option.some.injEq, Prod.mk.injEq] at H
  obtain ⟨rfl, rfl, rfl, rfl, rfl, rfl⟩ := H
  go_wp2_with (first | ((with_reducible refine uB (f := 92) rfl ?_); refine uL (some 7) Tryd.func92 #[.pointer (some ⟨g, 0, none⟩)] ?_; (with_reducible refine (spec_l5Log.calls k g s0_0 s0_1 s0_2 t413 t416 t417 w0 _ ?side1 ?side2 A2.out).mono ?_); (case side1 => exact cq15); (case side2 => exact cq1); rintro e w30 ⟨v414, rfl, ho0, hi, hb, hk⟩; refine ⟨_, rfl, ?_⟩; have HO415 := Aside0.mk (Kd.uN ho0 (vG (w := w) (g := g) (row := none) cq4)); replace BK412 := tKBlk BK412 hk NB412_0; replace HK := uX HK hk; replace HB := Aside0.mk (hb); replace HI0 := Aside0.mk (hi); (try clear hb); (try clear hk); (try clear hi); (try clear ho0); obtain ⟨Ao31, co31, eo31⟩ := Kd.uS HO415.out; subst eo31) | ((with_reducible refine uB (f := 52) rfl ?_); refine uL (some 14) Tryd.func52 #[.pointer (some ⟨g, 0, none⟩), .int .i64 (wrap64 ((t413.length : Int) + 1))] ?_; (with_reducible refine (spec_l1Below.calls g s0_0 t416 t417 (wrap64 ((t413.length : Int) + 1)) t418 t419 t420 w0 _ ?side1 ?side2 A3.out).mono ?_); (case side1 => exact cq15); (case side2 => exact cq1); rintro e w32 ⟨rfl, hi, hb, hk⟩; refine ⟨_, rfl, ?_⟩; replace BK412 := tKBlk BK412 hk NB412_0; replace HO415 := Aside0.mk (Kd.uG (Kd.vB (IsS110.apart (show IsS110 w0 _ g s0_0 t416 t417 from by repeat (first | (with_reducible first | exact HI0.out | apply IsS110.alloc | apply IsS110.drewN | apply IsS110.drew | apply IsS110.set_1 | apply IsS110.set_2 | refine IsS110.far ?_ NB0_412.out _) | exact HI0.out)) (uT HO415.out) (by decide)) hk (fun _ h => h.2)) (fun _ h => h.1)); replace HK := uX HK hk; replace HB := Aside0.mk (hb); replace HI0 := Aside0.mk (hi); (try clear hb); (try clear hk); (try clear hi)) | ((with_reducible refine uB (f := 98) rfl ?_); refine uL (some 15) Tryd.func98 #[.slice Ao31 t413.length co31, .int .i64 t418] ?_; (with_reducible refine (spec_TakeSnapshot.calls k _ _ t413 t418 t421 t422 t423 t426 t429 _ ?side1 ?side2 A4.out).mono ?_); (case side1 => exact cq73); (case side2 => exact (Kd.uY HO415.out).2.1); rintro e w33 ⟨v424, v427, rfl, ho0, ho1, hb⟩; refine ⟨_, rfl, ?_⟩; have HO425 := Aside0.mk (Kd.uN ho0 (vG (w := w) (g := g) (row := none) cq4)); have HO428 := Aside0.mk (Kd.uN ho1 (vG (w := w) (g := g) (row := none) cq4)); replace HO415 := Kd.tR HO415 hb; replace HI0 := Aside0.mk (IsS110.below cq15 hb); replace BK412 := vI BK412 hb; replace HK := uX HK (uV.of_below hb g none); replace HB := tBel1 HB hb; (try clear hb); (try clear ho0); (try clear ho1)) | ((with_reducible refine uQ (N := 4) rfl ?_); refine bxe 4 #[.int .i64 0, .int .i64 0, .slice none 0 0, .slice none 0 0] 83 ?_; intro gb430 hg w34 hbox hb; have BK430 := Aside0.mk (hbox); have GW430 := tKGe HK hg; have GE430 := tKW HW0 HK hg; have NB412_430 := tNl BK412 hg; have NB430_412 := tNg BK412 hg; have NB0_430 := Aside0.mk ((by rw [hg]; exact Nat.ne_of_lt (IsS110.lt (show IsS110 w0 _ g s0_0 t419 t420 from by repeat (first | (with_reducible first | exact HI0.out | apply IsS110.alloc | apply IsS110.drewN | apply IsS110.drew | apply IsS110.set_1 | apply IsS110.set_2 | refine IsS110.far ?_ NB0_412.out _) | exact HI0.out))) : g ≠ gb430)); have NB430_0 := Aside0.mk ((by rw [hg]; exact Nat.ne_of_gt (IsS110.lt (show IsS110 w0 _ g s0_0 t419 t420 from by repeat (first | (with_reducible first | exact HI0.out | apply IsS110.alloc | apply IsS110.drewN | apply IsS110.drew | apply IsS110.set_1 | apply IsS110.set_2 | refine IsS110.far ?_ NB0_412.out _) | exact HI0.out))) : gb430 ≠ g)); replace HO415 := Kd.tR HO415 hb; replace HO425 := Kd.tR HO425 hb; replace HO428 := Kd.tR HO428 hb; replace HI0 := Aside0.mk (IsS110.below cq15 hb); replace BK412 := vI BK412 hb; replace HK := uX HK (uV.of_below hb g none); replace HB := tBel1 HB hb; clear hb hbox hg; have hnb35 := NB430_412.out; have hnc35 := NB412_430.out; have hnb36 := NB430_0.out; have hnc36 := NB0_430.out; obtain ⟨hcz37_0, hcz37_1, hcz37_2, hcz37_3, hfz37_0, hfz37_1, hfz37_2, hfz37_3⟩ := cz4 BK430; obtain ⟨Ao38, co38, eo38⟩ := Kd.uS HO425.out; subst eo38; obtain ⟨Ao39, co39, eo39⟩ := Kd.uS HO428.out; subst eo39) | ((with_reducible refine uB (f := 52) rfl ?_); refine uL (some 19) Tryd.func52 #[.pointer (some ⟨g, 0, none⟩), .int .i64 14] ?_; (with_reducible refine (spec_l1Below.calls g s0_0 t419 t420 14 t431 t432 t433 w0 _ ?side1 ?side2 A5.out).mono ?_); (case side1 => exact cq14); (case side2 => exact cq1); rintro e w40 ⟨rfl, hi, hb, hk⟩; refine ⟨_, rfl, ?_⟩; replace BK412 := tKBlkF BK412 hk NB412_0; replace HO415 := Aside0.mk (Kd.uG (Kd.vB (IsS110.apart (show IsS110 w0 _ g s0_0 t419 t420 from by repeat (first | (with_reducible first | exact HI0.out | apply IsS110.alloc | apply IsS110.drewN | apply IsS110.drew | apply IsS110.set_1 | apply IsS110.set_2 | refine IsS110.far ?_ NB0_412.out _ | refine IsS110.far ?_ NB0_430.out _) | exact HI0.out)) (by (with_reducible repeat (first | apply Kd.uK | apply Kd.uJ | apply Kd.uO)); exact (Kd.uG (Kd.uI (p := ⟨gb430, 3, none⟩) (Kd.uI (p := ⟨gb430, 2, none⟩) (Kd.uI (p := ⟨gb430, 1, none⟩) (Kd.uI (p := ⟨gb430, 0, none⟩) (Kd.vE HO415.out BK430.out (by decide)) (fun _ hk => hk.2) (.int .i64 t421)) (fun _ hk => hk.2) (.int .i64 t422)) (fun _ hk => hk.2) (.slice Ao38 t423.length co38)) (fun _ hk => hk.2) (.slice Ao39 t426.length co39)) (fun _ h_ => h_.1))) (by decide)) hk (fun _ h => h.2)) (fun _ h => h.1)); replace HO425 := Aside0.mk (Kd.uG (Kd.vB (IsS110.apart (show IsS110 w0 _ g s0_0 t419 t420 from by repeat (first | (with_reducible first | exact HI0.out | apply IsS110.alloc | apply IsS110.drewN | apply IsS110.drew | apply IsS110.set_1 | apply IsS110.set_2 | refine IsS110.far ?_ NB0_412.out _ | refine IsS110.far ?_ NB0_430.out _) | exact HI0.out)) (by (with_reducible repeat (first | apply Kd.uK | apply Kd.uJ | apply Kd.uO)); exact (Kd.uG (Kd.uI (p := ⟨gb430, 3, none⟩) (Kd.uI (p := ⟨gb430, 2, none⟩) (Kd.uI (p := ⟨gb430, 1, none⟩) (Kd.uI (p := ⟨gb430, 0, none⟩) (Kd.vE HO425.out BK430.out (by decide)) (fun _ hk => hk.2) (.int .i64 t421)) (fun _ hk => hk.2) (.int .i64 t422)) (fun _ hk => hk.2) (.slice Ao38 t423.length co38)) (fun _ hk => hk.2) (.slice Ao39 t426.length co39)) (fun _ h_ => h_.1))) (by decide)) hk (fun _ h => h.2)) (fun _ h => h.1)); replace HO428 := Aside0.mk (Kd.uG (Kd.vB (IsS110.apart (show IsS110 w0 _ g s0_0 t419 t420 from by repeat (first | (with_reducible first | exact HI0.out | apply IsS110.alloc | apply IsS110.drewN | apply IsS110.drew | apply IsS110.set_1 | apply IsS110.set_2 | refine IsS110.far ?_ NB0_412.out _ | refine IsS110.far ?_ NB0_430.out _) | exact HI0.out)) (by (with_reducible repeat (first | apply Kd.uK | apply Kd.uJ | apply Kd.uO)); exact (Kd.uG (Kd.uI (p := ⟨gb430, 3, none⟩) (Kd.uI (p := ⟨gb430, 2, none⟩) (Kd.uI (p := ⟨gb430, 1, none⟩) (Kd.uI (p := ⟨gb430, 0, none⟩) (Kd.vE HO428.out BK430.out (by decide)) (fun _ hk => hk.2) (.int .i64 t421)) (fun _ hk => hk.2) (.int .i64 t422)) (fun _ hk => hk.2) (.slice Ao38 t423.length co38)) (fun _ hk => hk.2) (.slice Ao39 t426.length co39)) (fun _ h_ => h_.1))) (by decide)) hk (fun _ h => h.2)) (fun _ h => h.1)); replace BK430 := tKBlkP BK430 #[.int .i64 t421, .int .i64 t422, .slice Ao38 t423.length co38, .slice Ao39 t426.length co39] hk NB430_0; replace HK := uX HK hk; replace HB := Aside0.mk (hb); replace HI0 := Aside0.mk (hi); (try clear hb); (try clear hk); (try clear hi)) | ((with_reducible refine uQ (N := 29) rfl ?_); refine Kd.R_lit (Kd.int .i64) _ 3 ?hg (N := 29) ?hd (xs := ([(-1), 9972, 9973] : List Int)) (inner := [.int .i64 (-1), .int .i64 9972, .int .i64 9973]) (ok := fun _ => True) (okp := fun _ => True) ?hr ?hp (fun _ hk => hk) trivial (Below.refl _ _) (Nat.le_refl _) (by simp) ?_; (case hd => rfl); (case hg => rfl); (case hr => first | (go_simp; done) | (go_simp; rfl)); (case hp => exact (Reps.one (show Kd.M (Kd.int .i64) _ _ _ (-1) [.int .i64 (-1)] from rfl) (Reps.one (show Kd.M (Kd.int .i64) _ _ _ 9972 [.int .i64 9972] from rfl) (Reps.one (show Kd.M (Kd.int .i64) _ _ _ 9973 [.int .i64 9973] from rfl) (Reps.none _ _))))); intro v441 w41 ho42 hb hg_ hnew_; clear hg_ hnew_; (first | rw [← Ny440.out] at ho42 | (simp only [Int.reduceToNat] at ho42; rw [← Ny440.out] at ho42)); have HO442 := Aside0.mk (Kd.uN (Kd.vJ ho42 (Kd.R_lt (uT HO425.out))) (vG (w := w) (g := g) (row := none) cq4)); replace HO415 := Kd.tR HO415 hb; replace HO425 := Aside0.mk (Kd.vF (uT HO425.out) (Kd.vK ho42) hb); replace HO428 := Kd.tR HO428 hb; replace HI0 := Aside0.mk (IsS110.below cq14 hb); replace BK412 := vI BK412 hb; replace BK430 := vI BK430 hb; replace HK := uX HK (uV.of_below hb g none); replace HB := tBel1 HB hb; clear hb ho42; obtain ⟨Ao43, co43, eo43⟩ := Kd.uS HO442.out; subst eo43) | ((with_reducible refine uB (f := 54) rfl ?_); refine uL (some 30) Tryd.func54 #[.pointer (some ⟨g, 0, none⟩), .slice Ao43 y440.length co43] ?_; (with_reducible refine (spec_l1PickInt.calls g s0_0 t432 t433 _ _ y440 t443 t444 t445 w0 _ ?side1 ?side2 ?side3 ?side4 ?side5 A28.out).mono ?_); (case side1 => exact cq14); (case side2 => exact cq1); (case side3 => repeat (first | exact (Kd.uY HO442.out).2.2 | (with_reducible refine Kd.C_alloc ?_ _) | (with_reducible refine Kd.C_drewN ?_ _) | (with_reducible refine Kd.C_drew ?_))); (case side4 => exact (Kd.uY HO442.out).2.1); (case side5 => exact far_slice (IsS110.own_ne HI0.out HO442.out (by decide))); rintro e w44 ⟨rfl, hi, hb, hk⟩; refine ⟨_, rfl, ?_⟩; replace BK412 := tKBlk BK412 hk NB412_0; replace HO415 := Aside0.mk (Kd.uG (Kd.vB (IsS110.apart (show IsS110 w0 _ g s0_0 t432 t433 from by repeat (first | (with_reducible first | exact HI0.out | apply IsS110.alloc | apply IsS110.drewN | apply IsS110.drew | apply IsS110.set_1 | apply IsS110.set_2 | refine IsS110.far ?_ NB0_412.out _ | refine IsS110.far ?_ NB0_430.out _) | exact HI0.out)) (uT HO415.out) (by decide)) hk (fun _ h => h.2)) (fun _ h => h.1)); replace HO425 := Aside0.mk (Kd.uG (Kd.vB (IsS110.apart (show IsS110 w0 _ g s0_0 t432 t433 from by repeat (first | (with_reducible first | exact HI0.out | apply IsS110.alloc | apply IsS110.drewN | apply IsS110.drew | apply IsS110.set_1 | apply IsS110.set_2 | refine IsS110.far ?_ NB0_412.out _ | refine IsS110.far ?_ NB0_430.out _) | exact HI0.out)) (uT HO425.out) (by decide)) hk (fun _ h => h.2)) (fun _ h => h.1)); replace HO428 := Aside0.mk (Kd.uG (Kd.vB (IsS110.apart (show IsS110 w0 _ g s0_0 t432 t433 from by repeat (first | (with_reducible first | exact HI0.out | apply IsS110.alloc | apply IsS110.drewN | apply IsS110.drew | apply IsS110.set_1 | apply IsS110.set_2 | refine IsS110.far ?_ NB0_412.out _ | refine IsS110.far ?_ NB0_430.out _) | exact HI0.out)) (uT HO428.out) (by decide)) hk (fun _ h => h.2)) (fun _ h => h.1)); replace BK430 := tKBlk BK430 hk NB430_0; replace HO442 := Aside0.mk (Kd.uG (Kd.vB (IsS110.apart (show IsS110 w0 _ g s0_0 t432 t433 from by repeat (first | (with_reducible first | exact HI0.out | apply IsS110.alloc | apply IsS110.drewN | apply IsS110.drew | apply IsS110.set_1 | apply IsS110.set_2 | refine IsS110.far ?_ NB0_412.out _ | refine IsS110.far ?_ NB0_430.out _) | exact HI0.out)) (uT HO442.out) (by decide)) hk (fun _ h => h.2)) (fun _ h => h.1)); replace HK := uX HK hk; replace HB := Aside0.mk (hb); replace HI0 := Aside0.mk (hi); (try clear hb); (try clear hk); (try clear hi); obtain ⟨hcz45_0, hcz45_1, hcz45_2, hcz45_3, hfz45_0, hfz45_1, hfz45_2, hfz45_3⟩ := cz4 BK430; have hnb46 := NB412_0.out; have hnc46 := NB0_412.out; obtain ⟨hcz47_0, hcz47_1, hcz47_2, hcz47_3, hfz47_0, hfz47_1, hfz47_2, hfz47_3⟩ := cz4 BK412))
  refine bodyPost_ret (results_cell_row rfl _ _ gb412 83 #[.int .i64 t421, .int .i64 t443, .slice Ao38 t423.length co38, .slice Ao39 t426.length co39] (0, 0) _ rfl (by (with_reducible repeat (first | refine uF ?_ _ | refine uE ?_ | refine uD ?_ _)); refine uZ (cs := #[.int .i64 t421, .int .i64 t443, .slice Ao38 t423.length co38, .slice none 0 0]) ?_ 3 _ rfl; (with_reducible repeat (first | refine uF ?_ _ | refine uE ?_ | refine uD ?_ _)); refine uZ (cs := #[.int .i64 t421, .int .i64 t443, .slice none 0 0, .slice none 0 0]) ?_ 2 _ rfl; (with_reducible repeat (first | refine uF ?_ _ | refine uE ?_ | refine uD ?_ _)); refine uZ (cs := #[.int .i64 t421, .int .i64 0, .slice none 0 0, .slice none 0 0]) ?_ 1 _ rfl; (with_reducible repeat (first | refine uF ?_ _ | refine uE ?_ | refine uD ?_ _)); refine uZ (cs := #[.int .i64 0, .int .i64 0, .slice none 0 0, .slice none 0 0]) ?_ 0 _ rfl; (with_reducible repeat (first | refine uF ?_ _ | refine uE ?_ | refine uD ?_ _)); refine blk_far ?_ NB412_430.out _; (with_reducible repeat (first | refine uF ?_ _ | refine uE ?_ | refine uD ?_ _)); exact BK412.out) Tryd.underlying83 rfl (by kernel_rfl)) rfl ?_
  exact ⟨_, _, cq5, Kd.Q_of_R (by (with_reducible repeat (first | apply Kd.uK | apply Kd.uJ | apply Kd.uO)); exact Kd.uG (Kd.uI (p := ⟨gb412, 3, none⟩) (Kd.uI (p := ⟨gb412, 2, none⟩) (Kd.uI (p := ⟨gb412, 1, none⟩) (Kd.uI (p := ⟨gb412, 0, none⟩) (Kd.uI (p := ⟨gb430, 1, none⟩) (Kd.vE (Kd.vE HO425.out BK430.out (by decide)) BK412.out (by decide)) (fun _ hk => hk.1.2) (.int .i64 t443)) (fun _ hk => hk.2) (.int .i64 t421)) (fun _ hk => hk.2) (.int .i64 t443)) (fun _ hk => hk.2) (.slice Ao38 t423.length co38)) (fun _ hk => hk.2) (.slice Ao39 t426.length co39)) (fun _ hk => trivial)), by (with_reducible repeat (first | apply Kd.uK | apply Kd.uJ | apply Kd.uO)); exact Kd.uG (Kd.uI (p := ⟨gb412, 3, none⟩) (Kd.uI (p := ⟨gb412, 2, none⟩) (Kd.uI (p := ⟨gb412, 1, none⟩) (Kd.uI (p := ⟨gb412, 0, none⟩) (Kd.uI (p := ⟨gb430, 1, none⟩) (Kd.vE (Kd.vE HO428.out BK430.out (by decide)) BK412.out (by decide)) (fun _ hk => hk.1.2) (.int .i64 t443)) (fun _ hk => hk.2) (.int .i64 t421)) (fun _ hk => hk.2) (.int .i64 t443)) (fun _ hk => hk.2) (.slice Ao38 t423.length co38)) (fun _ hk => hk.2) (.slice Ao39 t426.length co39)) (fun _ hk => trivial), cq14, cq1, cq4⟩
 rw [if_neg c27] at H
 have c27b0 := beq_eq_false_iff_ne.mpr c27
 have c27b1 := bne_iff_ne.mpr c27
 go_wp2_with (first | ((with_reducible refine uB (f := 92) rfl ?_); refine uL (some 7) Tryd.func92 #[.pointer (some ⟨g, 0, none⟩)] ?_; (with_reducible refine (spec_l5Log.calls k g s0_0 s0_1 s0_2 t413 t416 t417 w0 _ ?side1 ?side2 A2.out).mono ?_); (case side1 => exact cq15); (case side2 => exact cq1); rintro e w69 ⟨v414, rfl, ho0, hi, hb, hk⟩; refine ⟨_, rfl, ?_⟩; have HO415 := Aside0.mk (Kd.uN ho0 (vG (w := w) (g := g) (row := none) cq4)); replace BK412 := tKBlk BK412 hk NB412_0; replace HK := uX HK hk; replace HB := Aside0.mk (hb); replace HI0 := Aside0.mk (hi); (try clear hb); (try clear hk); (try clear hi); (try clear ho0); obtain ⟨Ao70, co70, eo70⟩ := Kd.uS HO415.out; subst eo70) | ((with_reducible refine uB (f := 52) rfl ?_); refine uL (some 14) Tryd.func52 #[.pointer (some ⟨g, 0, none⟩), .int .i64 (wrap64 ((t413.length : Int) + 1))] ?_; (with_reducible refine (spec_l1Below.calls g s0_0 t416 t417 (wrap64 ((t413.length : Int) + 1)) t418 t419 t420 w0 _ ?side1 ?side2 A3.out).mono ?_); (case side1 => exact cq15); (case side2 => exact cq1); rintro e w71 ⟨rfl, hi, hb, hk⟩; refine ⟨_, rfl, ?_⟩; replace BK412 := tKBlk BK412 hk NB412_0; replace HO415 := Aside0.mk (Kd.uG (Kd.vB (IsS110.apart (show IsS110 w0 _ g s0_0 t416 t417 from by repeat (first | (with_reducible first | exact HI0.out | apply IsS110.alloc | apply IsS110.drewN | apply IsS110.drew | apply IsS110.set_1 | apply IsS110.set_2 | refine IsS110.far ?_ NB0_412.out _) | exact HI0.out)) (uT HO415.out) (by decide)) hk (fun _ h => h.2)) (fun _ h => h.1)); replace HK := uX HK hk; replace HB := Aside0.mk (hb); replace HI0 := Aside0.mk (hi); (try clear hb); (try clear hk); (try clear hi)) | ((with_reducible refine uB (f := 98) rfl ?_); refine uL (some 15) Tryd.func98 #[.slice Ao70 t413.length co70, .int .i64 t418] ?_; (with_reducible refine (spec_TakeSnapshot.calls k _ _ t413 t418 t421 t422 t423 t426 t429 _ ?side1 ?side2 A4.out).mono ?_); (case side1 => exact cq73); (case side2 => exact (Kd.uY HO415.out).2.1); rintro e w72 ⟨v424, v427, rfl, ho0, ho1, hb⟩; refine ⟨_, rfl, ?_⟩; have HO425 := Aside0.mk (Kd.uN ho0 (vG (w := w) (g := g) (row := none) cq4)); have HO428 := Aside0.mk (Kd.uN ho1 (vG (w := w) (g := g) (row := none) cq4)); replace HO415 := Kd.tR HO415 hb; replace HI0 := Aside0.mk (IsS110.below cq15 hb); replace BK412 := vI BK412 hb; replace HK := uX HK (uV.of_below hb g none); replace HB := tBel1 HB hb; (try clear hb); (try clear ho0); (try clear ho1)) | ((with_reducible refine uQ (N := 4) rfl ?_); refine bxe 4 #[.int .i64 0, .int .i64 0, .slice none 0 0, .slice none 0 0] 83 ?_; intro gb430 hg w73 hbox hb; have BK430 := Aside0.mk (hbox); have GW430 := tKGe HK hg; have GE430 := tKW HW0 HK hg; have NB412_430 := tNl BK412 hg; have NB430_412 := tNg BK412 hg; have NB0_430 := Aside0.mk ((by rw [hg]; exact Nat.ne_of_lt (IsS110.lt (show IsS110 w0 _ g s0_0 t419 t420 from by repeat (first | (with_reducible first | exact HI0.out | apply IsS110.alloc | apply IsS110.drewN | apply IsS110.drew | apply IsS110.set_1 | apply IsS110.set_2 | refine IsS110.far ?_ NB0_412.out _) | exact HI0.out))) : g ≠ gb430)); have NB430_0 := Aside0.mk ((by rw [hg]; exact Nat.ne_of_gt (IsS110.lt (show IsS110 w0 _ g s0_0 t419 t420 from by repeat (first | (with_reducible first | exact HI0.out | apply IsS110.alloc | apply IsS110.drewN | apply IsS110.drew | apply IsS110.set_1 | apply IsS110.set_2 | refine IsS110.far ?_ NB0_412.out _) | exact HI0.out))) : gb430 ≠ g)); replace HO415 := Kd.tR HO415 hb; replace HO425 := Kd.tR HO425 hb; replace HO428 := Kd.tR HO428 hb; replace HI0 := Aside0.mk (IsS110.below cq15 hb); replace BK412 := vI BK412 hb; replace HK := uX HK (uV.of_below hb g none); replace HB := tBel1 HB hb; clear hb hbox hg; have hnb74 := NB430_412.out; have hnc74 := NB412_430.out; have hnb75 := NB430_0.out; have hnc75 := NB0_430.out; obtain ⟨hcz76_0, hcz76_1, hcz76_2, hcz76_3, hfz76_0, hfz76_1, hfz76_2, hfz76_3⟩ := cz4 BK430; obtain ⟨Ao77, co77, eo77⟩ := Kd.uS HO425.out; subst eo77; obtain ⟨Ao78, co78, eo78⟩ := Kd.uS HO428.out; subst eo78) | ((with_reducible refine uB (f := 52) rfl ?_); refine uL (some 19) Tryd.func52 #[.pointer (some ⟨g, 0, none⟩), .int .i64 14] ?_; (with_reducible refine (spec_l1Below.calls g s0_0 t419 t420 14 t431 t432 t433 w0 _ ?side1 ?side2 A5.out).mono ?_); (case side1 => exact cq14); (case side2 => exact cq1); rintro e w79 ⟨rfl, hi, hb, hk⟩; refine ⟨_, rfl, ?_⟩; replace BK412 := tKBlkF BK412 hk NB412_0; replace HO415 := Aside0.mk (Kd.uG (Kd.vB (IsS110.apart (show IsS110 w0 _ g s0_0 t419 t420 from by repeat (first | (with_reducible first | exact HI0.out | apply IsS110.alloc | apply IsS110.drewN | apply IsS110.drew | apply IsS110.set_1 | apply IsS110.set_2 | refine IsS110.far ?_ NB0_412.out _ | refine IsS110.far ?_ NB0_430.out _) | exact HI0.out)) (by (with_reducible repeat (first | apply Kd.uK | apply Kd.uJ | apply Kd.uO)); exact (Kd.uG (Kd.uI (p := ⟨gb430, 3, none⟩) (Kd.uI (p := ⟨gb430, 2, none⟩) (Kd.uI (p := ⟨gb430, 1, none⟩) (Kd.uI (p := ⟨gb430, 0, none⟩) (Kd.vE HO415.out BK430.out (by decide)) (fun _ hk => hk.2) (.int .i64 t421)) (fun _ hk => hk.2) (.int .i64 t422)) (fun _ hk => hk.2) (.slice Ao77 t423.length co77)) (fun _ hk => hk.2) (.slice Ao78 t426.length co78)) (fun _ h_ => h_.1))) (by decide)) hk (fun _ h => h.2)) (fun _ h => h.1)); replace HO425 := Aside0.mk (Kd.uG (Kd.vB (IsS110.apart (show IsS110 w0 _ g s0_0 t419 t420 from by repeat (first | (with_reducible first | exact HI0.out | apply IsS110.alloc | apply IsS110.drewN | apply IsS110.drew | apply IsS110.set_1 | apply IsS110.set_2 | refine IsS110.far ?_ NB0_412.out _ | refine IsS110.far ?_ NB0_430.out _) | exact HI0.out)) (by (with_reducible repeat (first | apply Kd.uK | apply Kd.uJ | apply Kd.uO)); exact (Kd.uG (Kd.uI (p := ⟨gb430, 3, none⟩) (Kd.uI (p := ⟨gb430, 2, none⟩) (Kd.uI (p := ⟨gb430, 1, none⟩) (Kd.uI (p := ⟨gb430, 0, none⟩) (Kd.vE HO425.out BK430.out (by decide)) (fun _ hk => hk.2) (.int .i64 t421)) (fun _ hk => hk.2) (.int .i64 t422)) (fun _ hk => hk.2) (.slice Ao77 t423.length co77)) (fun _ hk => hk.2) (.slice Ao78 t426.length co78)) (fun _ h_ => h_.1))) (by decide)) hk (fun _ h => h.2)) (fun _ h => h.1)); replace HO428 := Aside0.mk (Kd.uG (Kd.vB (IsS110.apart (show IsS110 w0 _ g s0_0 t419 t420 from by repeat (first | (with_reducible first | exact HI0.out | apply IsS110.alloc | apply IsS110.drewN | apply IsS110.drew | apply IsS110.set_1 | apply IsS110.set_2 | refine IsS110.far ?_ NB0_412.out _ | refine IsS110.far ?_ NB0_430.out _) | exact HI0.out)) (by (with_reducible repeat (first | apply Kd.uK | apply Kd.uJ | apply Kd.uO)); exact (Kd.uG (Kd.uI (p := ⟨gb430, 3, none⟩) (Kd.uI (p := ⟨gb430, 2, none⟩) (Kd.uI (p := ⟨gb430, 1, none⟩) (Kd.uI (p := ⟨gb430, 0, none⟩) (Kd.vE HO428.out BK430.out (by decide)) (fun _ hk => hk.2) (.int .i64 t421)) (fun _ hk => hk.2) (.int .i64 t422)) (fun _ hk => hk.2) (.slice Ao77 t423.length co77)) (fun _ hk => hk.2) (.slice Ao78 t426.length co78)) (fun _ h_ => h_.1))) (by decide)) hk (fun _ h => h.2)) (fun _ h => h.1)); replace BK430 := tKBlkP BK430 #[.int .i64 t421, .int .i64 t422, .slice Ao77 t423.length co77, .slice Ao78 t426.length co78] hk NB430_0; replace HK := uX HK hk; replace HB := Aside0.mk (hb); replace HI0 := Aside0.mk (hi); (try clear hb); (try clear hk); (try clear hi); refine ?roundEnd))
 case roundEnd =>
 by_cases c48 : t431 = 2
 rotate_left
 ·rw [if_neg c48] at H
  have c48b0 := beq_eq_false_iff_ne.mpr c48
  have c48b1 := bne_iff_ne.mpr c48
  simp only [Option.some.injEq, Prod.mk.injEq] at H
  obtain ⟨rfl, rfl, rfl, rfl, rfl, rfl⟩ := H
  obtain ⟨hcz80_0, hcz80_1, hcz80_2, hcz80_3, hfz80_0, hfz80_1, hfz80_2, hfz80_3⟩ := cz4 BK430
  have hnb81 := NB412_0.out
  have hnc81 := NB0_412.out
  obtain ⟨hcz82_0, hcz82_1, hcz82_2, hcz82_3, hfz82_0, hfz82_1, hfz82_2, hfz82_3⟩ := cz4 BK412
  go_wp2
  refine bodyPost_ret (results_cell_row rfl _ _ gb412 83 #[.int .i64 t421, .int .i64 t422, .slice Ao77 t423.length co77, .slice Ao78 t426.length co78] (0, 0) _ rfl (by (with_reducible repeat (first | refine uF ?_ _ | refine uE ?_ | refine uD ?_ _)); refine uZ (cs := #[.int .i64 t421, .int .i64 t422, .slice Ao77 t423.length co77, .slice none 0 0]) ?_ 3 _ rfl; (with_reducible repeat (first | refine uF ?_ _ | refine uE ?_ | refine uD ?_ _)); refine uZ (cs := #[.int .i64 t421, .int .i64 t422, .slice none 0 0, .slice none 0 0]) ?_ 2 _ rfl; (with_reducible repeat (first | refine uF ?_ _ | refine uE ?_ | refine uD ?_ _)); refine uZ (cs := #[.int .i64 t421, .int .i64 0, .slice none 0 0, .slice none 0 0]) ?_ 1 _ rfl; (with_reducible repeat (first | refine uF ?_ _ | refine uE ?_ | refine uD ?_ _)); refine uZ (cs := #[.int .i64 0, .int .i64 0, .slice none 0 0, .slice none 0 0]) ?_ 0 _ rfl; (with_reducible repeat (first | refine uF ?_ _ | refine uE ?_ | refine uD ?_ _)); exact BK412.out) Tryd.underlying83 rfl (by kernel_rfl)) rfl ?_
  exact ⟨_, _, cq5, Kd.Q_of_R (by (with_reducible repeat (first | apply Kd.uK | apply Kd.uJ | apply Kd.uO)); exact Kd.uG (Kd.uI (p := ⟨gb412, 3, none⟩) (Kd.uI (p := ⟨gb412, 2, none⟩) (Kd.uI (p := ⟨gb412, 1, none⟩) (Kd.uI (p := ⟨gb412, 0, none⟩) (Kd.vE HO425.out BK412.out (by decide)) (fun _ hk => hk.2) (.int .i64 t421)) (fun _ hk => hk.2) (.int .i64 t422)) (fun _ hk => hk.2) (.slice Ao77 t423.length co77)) (fun _ hk => hk.2) (.slice Ao78 t426.length co78)) (fun _ hk => trivial)), by (with_reducible repeat (first | apply Kd.uK | apply Kd.uJ | apply Kd.uO)); exact Kd.uG (Kd.uI (p := ⟨gb412, 3, none⟩) (Kd.uI (p := ⟨gb412, 2, none⟩) (Kd.uI (p := ⟨gb412, 1, none⟩) (Kd.uI (p := ⟨gb412, 0, none⟩) (Kd.vE HO428.out BK412.out (by decide)) (fun _ hk => hk.2) (.int .i64 t421)) (fun _ hk => hk.2) (.int .i64 t422)) (fun _ hk => hk.2) (.slice Ao77 t423.length co77)) (fun _ hk => hk.2) (.slice Ao78 t426.length co78)) (fun _ hk => trivial), cq14, cq1, cq4⟩
 rw [if_pos c48] at H
 have c48b0 := beq_iff_eq.mpr c48
 have c48b1 := bne_eq_false_iff_eq.mpr c48
 clear c48
 replace H := Option.bind_eq_some_iff.mp H
 obtain ⟨⟨t446, t449, t452, t453⟩, A490, H⟩ := H
 try dsimp only at H
 have A49 := Aside0.mk A490
 clear A490
 simp only [Option.some.injEq, Prod.mk.injEq] at H
 obtain ⟨rfl, rfl, rfl, rfl, rfl, rfl⟩ := H
 go_wp2_with (first | ((with_reducible refine uB (f := 99) rfl ?_); refine uL (some 35) Tryd.func99 #[.pointer (some ⟨g, 0, none⟩)] ?_; (with_reducible refine (spec_l4Any.calls k g s0_0 t432 t433 t446 t449 t452 t453 w0 _ ?side1 ?side2 A49.out).mono ?_); (case side1 => exact cq14); (case side2 => exact cq1); rintro e w62 ⟨v447, v450, rfl, ho0, ho1, hi, hb, hk⟩; refine ⟨_, rfl, ?_⟩; have HO448 := Aside0.mk (Kd.Q_lower (Kd.Q_new' ho0 (Kd.R_lt (uT HO425.out))) (vG (w := w) (g := g) (row := none) cq4)); have HO451 := Aside0.mk (Kd.uN (Kd.vJ ho1 (Kd.R_lt (uT HO428.out))) (vG (w := w) (g := g) (row := none) cq4)); replace BK412 := tKBlk BK412 hk NB412_0; replace HO415 := Aside0.mk (Kd.uG (Kd.vB (IsS110.apart (show IsS110 w0 _ g s0_0 t432 t433 from by repeat (first | (with_reducible first | exact HI0.out | apply IsS110.alloc | apply IsS110.drewN | apply IsS110.drew | apply IsS110.set_1 | apply IsS110.set_2 | refine IsS110.far ?_ NB0_412.out _ | refine IsS110.far ?_ NB0_430.out _) | exact HI0.out)) (uT HO415.out) (by decide)) hk (fun _ h => h.2)) (fun _ h => h.1)); replace HO425 := Aside0.mk (Kd.uG (Kd.R_told (Kd.R_oldK (IsS110.apart (show IsS110 w0 _ g s0_0 t432 t433 from by repeat (first | (with_reducible first | exact HI0.out | apply IsS110.alloc | apply IsS110.drewN | apply IsS110.drew | apply IsS110.set_1 | apply IsS110.set_2 | refine IsS110.far ?_ NB0_412.out _ | refine IsS110.far ?_ NB0_430.out _) | exact HI0.out)) (uT HO425.out) (by decide)) hk) (Kd.Q_base ho0)) (fun _ h_ => h_.1)); replace HO428 := Aside0.mk (Kd.uG (Kd.R_told (Kd.R_oldK (IsS110.apart (show IsS110 w0 _ g s0_0 t432 t433 from by repeat (first | (with_reducible first | exact HI0.out | apply IsS110.alloc | apply IsS110.drewN | apply IsS110.drew | apply IsS110.set_1 | apply IsS110.set_2 | refine IsS110.far ?_ NB0_412.out _ | refine IsS110.far ?_ NB0_430.out _) | exact HI0.out)) (uT HO428.out) (by decide)) hk) (Kd.vK ho1)) (fun _ h_ => h_.1)); replace BK430 := tKBlk BK430 hk NB430_0; replace HK := uX HK hk; replace HB := Aside0.mk (hb); replace HI0 := Aside0.mk (hi); (try clear hb); (try clear hk); (try clear hi); (try clear ho0); (try clear ho1); obtain ⟨Ao63, co63, eo63, _⟩ := Kd.Q_slice HO448.out; subst eo63; obtain ⟨hcz64_0, hcz64_1, hcz64_2, hcz64_3, hfz64_0, hfz64_1, hfz64_2, hfz64_3⟩ := cz4 BK430; obtain ⟨Ao65, co65, eo65⟩ := Kd.uS HO451.out; subst eo65; have hnb66 := NB412_0.out; have hnc66 := NB0_412.out; obtain ⟨hcz67_0, hcz67_1, hcz67_2, hcz67_3, hfz67_0, hfz67_1, hfz67_2, hfz67_3⟩ := cz4 BK412))
 refine bodyPost_ret (results_cell_row rfl _ _ gb412 83 #[.int .i64 t421, .int .i64 t422, .slice Ao63 t446.length co63, .slice Ao65 t449.length co65] (0, 0) _ rfl (by (with_reducible repeat (first | refine uF ?_ _ | refine uE ?_ | refine uD ?_ _)); refine uZ (cs := #[.int .i64 t421, .int .i64 t422, .slice Ao63 t446.length co63, .slice none 0 0]) ?_ 3 _ rfl; (with_reducible repeat (first | refine uF ?_ _ | refine uE ?_ | refine uD ?_ _)); refine uZ (cs := #[.int .i64 t421, .int .i64 t422, .slice none 0 0, .slice none 0 0]) ?_ 2 _ rfl; (with_reducible repeat (first | refine uF ?_ _ | refine uE ?_ | refine uD ?_ _)); refine uZ (cs := #[.int .i64 t421, .int .i64 0, .slice none 0 0, .slice none 0 0]) ?_ 1 _ rfl; (with_reducible repeat (first | refine uF ?_ _ | refine uE ?_ | refine uD ?_ _)); refine uZ (cs := #[.int .i64 0, .int .i64 0, .slice none 0 0, .slice none 0 0]) ?_ 0 _ rfl; (with_reducible repeat (first | refine uF ?_ _ | refine uE ?_ | refine uD ?_ _)); refine blk_far ?_ NB412_430.out _; (with_reducible repeat (first | refine uF ?_ _ | refine uE ?_ | refine uD ?_ _)); refine blk_far ?_ NB412_430.out _; (with_reducible repeat (first | refine uF ?_ _ | refine uE ?_ | refine uD ?_ _)); exact BK412.out) Tryd.underlying83 rfl (by kernel_rfl)) rfl ?_
 exact ⟨_, _, cq5, by (with_reducible repeat (first | apply Kd.Q_alloc | apply Kd.Q_drewN | apply Kd.Q_drew)); exact Kd.Q_mono (Kd.Q_far (p := ⟨gb412, 3, none⟩) (Kd.Q_far (p := ⟨gb412, 2, none⟩) (Kd.Q_far (p := ⟨gb412, 1, none⟩) (Kd.Q_far (p := ⟨gb412, 0, none⟩) (Kd.Q_far (p := ⟨gb430, 3, none⟩) (Kd.Q_far (p := ⟨gb430, 2, none⟩) (Kd.Q_types (Kd.Q_types HO448.out BK430.out (by decide)) BK412.out (by decide)) (fun _ hk => hk.1.2) (.slice Ao63 t446.length co63)) (fun _ hk => hk.1.2) (.slice Ao65 t449.length co65)) (fun _ hk => hk.2) (.int .i64 t421)) (fun _ hk => hk.2) (.int .i64 t422)) (fun _ hk => hk.2) (.slice Ao63 t446.length co63)) (fun _ hk => hk.2) (.slice Ao65 t449.length co65)) (fun _ hk => trivial), by (with_reducible repeat (first | apply Kd.uK | apply Kd.uJ | apply Kd.uO)); exact Kd.uG (Kd.uI (p := ⟨gb412, 3, none⟩) (Kd.uI (p := ⟨gb412, 2, none⟩) (Kd.uI (p := ⟨gb412, 1, none⟩) (Kd.uI (p := ⟨gb412, 0, none⟩) (Kd.uI (p := ⟨gb430, 3, none⟩) (Kd.uI (p := ⟨gb430, 2, none⟩) (Kd.vE (Kd.vE HO451.out BK430.out (by decide)) BK412.out (by decide)) (fun _ hk => hk.1.2) (.slice Ao63 t446.length co63)) (fun _ hk => hk.1.2) (.slice Ao65 t449.length co65)) (fun _ hk => hk.2) (.int .i64 t421)) (fun _ hk => hk.2) (.int .i64 t422)) (fun _ hk => hk.2) (.slice Ao63 t446.length co63)) (fun _ hk => hk.2) (.slice Ao65 t449.length co65)) (fun _ hk => trivial), cq14, cq1, cq4⟩

/-! ### spec_l7Parts: function 56 -/
mutual
def spec_l7Parts.l0 : Nat → List ByteArray → List ByteArray → Int → List Int → Int → Int → Option (List ByteArray × List ByteArray × Int × Int)
 | 0, _, _, _, _, _, _ => none
 | k + 1, x4, x5, x6, x1000, x1001, x1002 => if x6 > 0 then (spec_l7Parts.j1 k x4 x5 x6 (decide ((x4.length : Int) > 0)) x1000 x1001 x1002) else (spec_l7Parts.j1 k x4 x5 x6 false x1000 x1001 x1002)
def spec_l7Parts.j1 : Nat → List ByteArray → List ByteArray → Int → Bool → List Int → Int → Int → Option (List ByteArray × List ByteArray × Int × Int)
 | 0, _, _, _, _, _, _, _ => none
 | k + 1, x4, x5, x6, x23, x1000, x1001, x1002 => if x23 = true then ((spec_l1Below.f x1000 x1001 x1002 (x4.length : Int)).bind fun bt477 => (if 0 ≤ bt477.1 then (if bt477.1 < (x4.length : Int) then ((spec_ReceiveChunk.f k x5 (rdOf ByteArray.empty x4 bt477.1)).bind fun bt481 => (spec_l7Parts.l0 k x4 bt481.1 (wrap64 (x6 - 1)) x1000 bt477.2.1 bt477.2.2)) else (none)) else (none))) else (some (x4, x5, x1001, x1002))
end
def spec_l7Parts.f (k : Nat) (s0_0 : List Int) (s0_1 : Int) (s0_2 : Int) : Option (List ByteArray × List ByteArray × Int × Int) := (spec_l7Snap.f k s0_0 s0_1 s0_2).bind fun bt454 => ((spec_SnapshotText.f k bt454.1 bt454.2.1 bt454.2.2.1 bt454.2.2.2.1).bind fun t464 => ((spec_l1Below.f s0_0 bt454.2.2.2.2.1 bt454.2.2.2.2.2 9).bind fun bt465 => ((spec_EncodeChunks.f k t464 (wrap64 (1 + bt465.1))).bind fun t468 => ((spec_l1Below.f s0_0 bt465.2.1 bt465.2.2 8).bind fun bt474 => (spec_l7Parts.l0 k t468 (([] : List ByteArray)) bt474.1 s0_0 bt474.2.1 bt474.2.2)))))
theorem spec_l7Parts.mono_l : ∀ k, (∀ y0 y1 y2 y3 y4 y5, uA (spec_l7Parts.l0 k y0 y1 y2 y3 y4 y5) (spec_l7Parts.l0 (k + 1) y0 y1 y2 y3 y4 y5)) ∧ (∀ y0 y1 y2 y3 y4 y5 y6, uA (spec_l7Parts.j1 k y0 y1 y2 y3 y4 y5 y6) (spec_l7Parts.j1 (k + 1) y0 y1 y2 y3 y4 y5 y6))
 | 0 => ⟨fun _ _ _ _ _ _ r h => by simp [spec_l7Parts.l0] at h, fun _ _ _ _ _ _ _ r h => by simp [spec_l7Parts.j1] at h⟩
 | k + 1 => by
  obtain ⟨ih0, ih1⟩ := spec_l7Parts.mono_l k
  refine ⟨?_, ?_⟩
  ·intro y0 y1 y2 y3 y4 y5
   unfold spec_l7Parts.l0
   repeat' first
   | (with_reducible exact ih0 _ _ _ _ _ _)
   | (with_reducible exact ih1 _ _ _ _ _ _ _)
   | (with_reducible exact spec_EncodeChunks.mono _ _ _)
   | (with_reducible exact spec_ReceiveChunk.mono _ _ _)
   | (with_reducible exact spec_SnapshotText.mono _ _ _ _ _)
   | (with_reducible exact spec_l7Snap.mono _ _ _ _)
   | (with_reducible exact uA.refl _)
   | (with_reducible exact uA.none _)
   | (with_reducible refine uA.vA ?_ ?_)
   | (with_reducible refine uA.bind ?_ (fun _ => ?_))
   | exact ih0 _ _ _ _ _ _
   | exact ih1 _ _ _ _ _ _ _
   | exact uA.none _
   | refine uA.vA ?_ ?_
   | refine uA.bind ?_ (fun _ => ?_)
  intro y0 y1 y2 y3 y4 y5 y6
  unfold spec_l7Parts.j1
  repeat' first
  | (with_reducible exact ih0 _ _ _ _ _ _)
  | (with_reducible exact ih1 _ _ _ _ _ _ _)
  | (with_reducible exact spec_EncodeChunks.mono _ _ _)
  | (with_reducible exact spec_ReceiveChunk.mono _ _ _)
  | (with_reducible exact spec_SnapshotText.mono _ _ _ _ _)
  | (with_reducible exact spec_l7Snap.mono _ _ _ _)
  | (with_reducible exact uA.refl _)
  | (with_reducible exact uA.none _)
  | (with_reducible refine uA.vA ?_ ?_)
  | (with_reducible refine uA.bind ?_ (fun _ => ?_))
  | exact ih0 _ _ _ _ _ _
  | exact ih1 _ _ _ _ _ _ _
  | exact uA.none _
  | refine uA.vA ?_ ?_
  | refine uA.bind ?_ (fun _ => ?_)
theorem spec_l7Parts.mono : ∀ a0 a1 a2 k, uA (spec_l7Parts.f k a0 a1 a2) (spec_l7Parts.f (k + 1) a0 a1 a2) := by
 intro a0 a1 a2 k
 obtain ⟨ih0, ih1⟩ := spec_l7Parts.mono_l k
 unfold spec_l7Parts.f
 repeat' first
   | (with_reducible exact ih0 _ _ _ _ _ _)
   | (with_reducible exact ih1 _ _ _ _ _ _ _)
   | (with_reducible exact spec_EncodeChunks.mono _ _ _)
   | (with_reducible exact spec_ReceiveChunk.mono _ _ _)
   | (with_reducible exact spec_SnapshotText.mono _ _ _ _ _)
   | (with_reducible exact spec_l7Snap.mono _ _ _ _)
   | (with_reducible exact uA.refl _)
   | (with_reducible exact uA.none _)
   | (with_reducible refine uA.vA ?_ ?_)
   | (with_reducible refine uA.bind ?_ (fun _ => ?_))
   | exact ih0 _ _ _ _ _ _
   | exact ih1 _ _ _ _ _ _ _
   | exact uA.none _
   | refine uA.vA ?_ ?_
   | refine uA.bind ?_ (fun _ => ?_)
set_option maxHeartbeats 8000000 in
set_option maxRecDepth 100000 in
theorem spec_l7Parts.calls (k : Nat) (g : Nat) (s0_0 : List Int) (s0_1 : Int) (s0_2 : Int) (r1 : List ByteArray) (r2 : List ByteArray) (r3 : Int) (r4 : Int) (w0 w : World) (hI : IsS110 w0 w g s0_0 s0_1 s0_2) (hB : Below w0.heap.size w0 w) (h : spec_l7Parts.f k s0_0 s0_1 s0_2 = some (r1, r2, r3, r4)) :
  Calls Tryd.prog 56 #[.pointer (some ⟨g, 0, none⟩)] w fun e w' => ∃ v0_ v1_ : Value, e = .returned (.tuple #[v0_, v1_]) ∧ Kd.R Kd.string 9 w' w.heap.size (fun k_ => some k_ ≠ (v1_ : Value).ownBlock) v0_ r1 ∧ Kd.R Kd.string 9 w' w.heap.size (fun k_ => some k_ ≠ (v0_ : Value).ownBlock) v1_ r2 ∧ IsS110 w0 w' g s0_0 r3 r4 ∧ Below w0.heap.size w0 w' ∧ uV w w' g none := by
 have HI0 := Aside0.mk hI
 have HK := Aside0.mk (uV.refl w g none)
 have HL := Aside0.mk hB.size
 clear hI
 have HW0 := Aside0.mk hB.size
 have HB := Aside0.mk hB
 clear hB
 have H : ((spec_l7Snap.f k s0_0 s0_1 s0_2).bind fun bt454 => ((spec_SnapshotText.f k bt454.1 bt454.2.1 bt454.2.2.1 bt454.2.2.2.1).bind fun t464 => ((spec_l1Below.f s0_0 bt454.2.2.2.2.1 bt454.2.2.2.2.2 9).bind fun bt465 => ((spec_EncodeChunks.f k t464 (wrap64 (1 + bt465.1))).bind fun t468 => ((spec_l1Below.f s0_0 bt465.2.1 bt465.2.2 8).bind fun bt474 => (spec_l7Parts.l0 k t468 (([] : List ByteArray)) bt474.1 s0_0 bt474.2.1 bt474.2.2)))))) = some (r1, r2, r3, r4) := h
 clear h
 replace H := Option.bind_eq_some_iff.mp H
 obtain ⟨⟨t454, t455, t456, t459, t462, t463⟩, A20, H⟩ := H
 try dsimp only at H
 have A2 := Aside0.mk A20
 clear A20
 replace H := Option.bind_eq_some_iff.mp H
 obtain ⟨t464, A30, H⟩ := H
 try dsimp only at H
 have A3 := Aside0.mk A30
 clear A30
 replace H := Option.bind_eq_some_iff.mp H
 obtain ⟨⟨t465, t466, t467⟩, A40, H⟩ := H
 try dsimp only at H
 have A4 := Aside0.mk A40
 clear A40
 replace H := Option.bind_eq_some_iff.mp H
 obtain ⟨t468, A50, H⟩ := H
 try dsimp only at H
 have A5 := Aside0.mk A50
 clear A50
 obtain ⟨y471, hy471⟩ : ∃ y_ : List ByteArray, y_ = (([] : List ByteArray)) := ⟨_, rfl⟩
 replace H : ((spec_l1Below.f s0_0 t466 t467 8).bind fun bt474 => (spec_l7Parts.l0 k t468 y471 bt474.1 s0_0 bt474.2.1 bt474.2.2)) = some (r1, r2, r3, r4) := rpl hy471 H
 have Ny471 := Aside0.mk hy471
 clear hy471
 replace H := Option.bind_eq_some_iff.mp H
 obtain ⟨⟨t474, t475, t476⟩, A60, H⟩ := H
 try dsimp only at H
 have A6 := Aside0.mk A60
 clear A60
 have H' := Aside0.mk H
 clear H
 go_enter Tryd.func56, Tryd.ntmps56
 go_wp2_with (first | ((with_reducible refine uB (f := 62) rfl ?_); refine uL (some 8) Tryd.func62 #[.pointer (some ⟨g, 0, none⟩)] ?_; (with_reducible refine (spec_l7Snap.calls k g s0_0 s0_1 s0_2 t454 t455 t456 t459 t462 t463 w0 _ ?side1 ?side2 A2.out).mono ?_); (case side1 => exact cq3); (case side2 => exact cq6); rintro e w7 ⟨v457, v460, rfl, ho0, ho1, hi, hb, hk⟩; refine ⟨_, rfl, ?_⟩; have HO458 := Aside0.mk (Kd.Q_lower ho0 (vG (w := w) (g := g) (row := none) cq11)); have HO461 := Aside0.mk (Kd.uN ho1 (vG (w := w) (g := g) (row := none) cq11)); replace HK := uX HK hk; replace HB := Aside0.mk (hb); replace HI0 := Aside0.mk (hi); (try clear hb); (try clear hk); (try clear hi); (try clear ho0); (try clear ho1); obtain ⟨Ao8, co8, eo8, _⟩ := Kd.Q_slice HO458.out; subst eo8; obtain ⟨Ao9, co9, eo9⟩ := Kd.uS HO461.out; subst eo9) | ((with_reducible refine uB (f := 61) rfl ?_); refine uL (some 9) Tryd.func61 #[.agg #[.int .i64 t454, .int .i64 t455, .slice Ao8 t456.length co8, .slice Ao9 t459.length co9]] ?_; (with_reducible refine (spec_SnapshotText.calls k t454 t455 _ _ t456 _ _ t459 t464 _ ?side1 ?side2 ?side3 ?side4 A3.out).mono ?_); (case side1 => repeat (first | exact (Kd.Q_reads' HO458.out).2.2 | (with_reducible refine Kd.C_alloc ?_ _) | (with_reducible refine Kd.C_drewN ?_ _) | (with_reducible refine Kd.C_drew ?_))); (case side2 => exact (Kd.Q_reads' HO458.out).2.1); (case side3 => repeat (first | exact (Kd.uY HO461.out).2.2 | (with_reducible refine Kd.C_alloc ?_ _) | (with_reducible refine Kd.C_drewN ?_ _) | (with_reducible refine Kd.C_drew ?_))); (case side4 => exact (Kd.uY HO461.out).2.1); rintro e w10 ⟨rfl, hb⟩; refine ⟨_, rfl, ?_⟩; replace HO458 := Kd.tQ HO458 hb; replace HO461 := Kd.tR HO461 hb; replace HI0 := Aside0.mk (IsS110.below cq3 hb); replace HK := uX HK (uV.of_below hb g none); replace HB := tBel1 HB hb; (try clear hb)) | ((with_reducible refine uB (f := 52) rfl ?_); refine uL (some 11) Tryd.func52 #[.pointer (some ⟨g, 0, none⟩), .int .i64 9] ?_; (with_reducible refine (spec_l1Below.calls g s0_0 t462 t463 9 t465 t466 t467 w0 _ ?side1 ?side2 A4.out).mono ?_); (case side1 => exact cq3); (case side2 => exact cq6); rintro e w11 ⟨rfl, hi, hb, hk⟩; refine ⟨_, rfl, ?_⟩; replace HO458 := Aside0.mk (Kd.Q_mono (Kd.Q_keep (IsS110.apartQ (show IsS110 w0 _ g s0_0 t462 t463 from by repeat (first | (with_reducible first | exact HI0.out | apply IsS110.alloc | apply IsS110.drewN | apply IsS110.drew | apply IsS110.set_1 | apply IsS110.set_2) | exact HI0.out)) (rSQ HO458.out) (by decide)) hk (fun _ h => h.2)) (fun _ h => h.1)); replace HO461 := Aside0.mk (Kd.uG (Kd.vB (IsS110.apart (show IsS110 w0 _ g s0_0 t462 t463 from by repeat (first | (with_reducible first | exact HI0.out | apply IsS110.alloc | apply IsS110.drewN | apply IsS110.drew | apply IsS110.set_1 | apply IsS110.set_2) | exact HI0.out)) (uT HO461.out) (by decide)) hk (fun _ h => h.2)) (fun _ h => h.1)); replace HK := uX HK hk; replace HB := Aside0.mk (hb); replace HI0 := Aside0.mk (hi); (try clear hb); (try clear hk); (try clear hi)) | ((with_reducible refine uB (f := 26) rfl ?_); refine uL (some 13) Tryd.func26 #[.string t464, .int .i64 (wrap64 (1 + t465))] ?_; (with_reducible refine (spec_EncodeChunks.calls k t464 (wrap64 (1 + t465)) t468 _ A5.out).mono ?_); rintro e w12 ⟨v469, rfl, ho0, hb⟩; refine ⟨_, rfl, ?_⟩; have HO470 := Aside0.mk (Kd.uN ho0 (vG (w := w) (g := g) (row := none) cq11)); replace HO458 := Kd.tQ HO458 hb; replace HO461 := Kd.tR HO461 hb; replace HI0 := Aside0.mk (IsS110.below cq3 hb); replace HK := uX HK (uV.of_below hb g none); replace HB := tBel1 HB hb; (try clear hb); (try clear ho0)) | ((with_reducible refine uQ (N := 14) rfl ?_); refine Kd.R_lit Kd.string _ 9 ?hg (N := 14) ?hd (xs := ([] : List ByteArray)) (inner := []) (ok := fun _ => True) (okp := fun _ => True) ?hr ?hp (fun _ hk => hk) trivial (Below.refl _ _) (Nat.le_refl _) (by simp) ?_; (case hd => rfl); (case hg => rfl); (case hr => first | (go_simp; done) | (go_simp; rfl)); (case hp => exact (Reps.none _ _)); intro v472 w13 ho14 hb hg_ hnew_; clear hg_ hnew_; (first | rw [← Ny471.out] at ho14 | (simp only [Int.reduceToNat] at ho14; rw [← Ny471.out] at ho14)); have HO473 := Aside0.mk (Kd.uN (Kd.vJ ho14 (Kd.R_lt (uT HO470.out))) (vG (w := w) (g := g) (row := none) cq11)); replace HO458 := Kd.tQ HO458 hb; replace HO461 := Kd.tR HO461 hb; replace HO470 := Aside0.mk (Kd.vF (uT HO470.out) (Kd.vK ho14) hb); replace HI0 := Aside0.mk (IsS110.below cq3 hb); replace HK := uX HK (uV.of_below hb g none); replace HB := tBel1 HB hb; clear hb ho14) | ((with_reducible refine uB (f := 52) rfl ?_); refine uL (some 16) Tryd.func52 #[.pointer (some ⟨g, 0, none⟩), .int .i64 8] ?_; (with_reducible refine (spec_l1Below.calls g s0_0 t466 t467 8 t474 t475 t476 w0 _ ?side1 ?side2 A6.out).mono ?_); (case side1 => exact cq3); (case side2 => exact cq6); rintro e w15 ⟨rfl, hi, hb, hk⟩; refine ⟨_, rfl, ?_⟩; replace HO458 := Aside0.mk (Kd.Q_mono (Kd.Q_keep (IsS110.apartQ (show IsS110 w0 _ g s0_0 t466 t467 from by repeat (first | (with_reducible first | exact HI0.out | apply IsS110.alloc | apply IsS110.drewN | apply IsS110.drew | apply IsS110.set_1 | apply IsS110.set_2) | exact HI0.out)) (rSQ HO458.out) (by decide)) hk (fun _ h => h.2)) (fun _ h => h.1)); replace HO461 := Aside0.mk (Kd.uG (Kd.vB (IsS110.apart (show IsS110 w0 _ g s0_0 t466 t467 from by repeat (first | (with_reducible first | exact HI0.out | apply IsS110.alloc | apply IsS110.drewN | apply IsS110.drew | apply IsS110.set_1 | apply IsS110.set_2) | exact HI0.out)) (uT HO461.out) (by decide)) hk (fun _ h => h.2)) (fun _ h => h.1)); replace HO470 := Aside0.mk (Kd.uG (Kd.vB (IsS110.apart (show IsS110 w0 _ g s0_0 t466 t467 from by repeat (first | (with_reducible first | exact HI0.out | apply IsS110.alloc | apply IsS110.drewN | apply IsS110.drew | apply IsS110.set_1 | apply IsS110.set_2) | exact HI0.out)) (uT HO470.out) (by decide)) hk (fun _ h => h.2)) (fun _ h => h.1)); replace HO473 := Aside0.mk (Kd.uG (Kd.vB (IsS110.apart (show IsS110 w0 _ g s0_0 t466 t467 from by repeat (first | (with_reducible first | exact HI0.out | apply IsS110.alloc | apply IsS110.drewN | apply IsS110.drew | apply IsS110.set_1 | apply IsS110.set_2) | exact HI0.out)) (uT HO473.out) (by decide)) hk (fun _ h => h.2)) (fun _ h => h.1)); replace HK := uX HK hk; replace HB := Aside0.mk (hb); replace HI0 := Aside0.mk (hi); (try clear hb); (try clear hk); (try clear hi)))
 go_loopg [5, 6] k (fun kq v5 v6 w' => ∃ (x5_1 : List ByteArray) (x6_1 : Int) (x1001_1 : Int) (x1002_1 : Int), v6 = .int .i64 x6_1 ∧ Aside0 (spec_l7Parts.l0 kq t468 x5_1 x6_1 s0_0 x1001_1 x1002_1 = some (r1, r2, r3, r4)) ∧ Aside0 (kq ≤ k) ∧ Aside0 (Kd.R Kd.string 9 w' w.heap.size (fun k_ => some k_ ≠ (v5 : Value).ownBlock) v469 t468) ∧ Aside0 (Kd.R Kd.string 9 w' w.heap.size (fun k_ => some k_ ≠ (v469 : Value).ownBlock) v5 x5_1) ∧ Aside0 (IsS110 w0 w' g s0_0 x1001_1 x1002_1) ∧ Aside0 (uV w w' g none) ∧ Aside0 (Below w0.heap.size w0 w'))
 case atStart => exact ⟨(y471), (t474), (t475), (t476), vD, H', ⟨Nat.le_refl _⟩, ⟨by (with_reducible repeat (first | apply Kd.uK | apply Kd.uJ | apply Kd.uO)); exact Kd.uG HO470.out (fun _ hk => hk.2)⟩, ⟨by (with_reducible repeat (first | apply Kd.uK | apply Kd.uJ | apply Kd.uO)); exact Kd.uG HO473.out (fun _ hk => hk.2)⟩, ⟨cq3⟩, ⟨cq11⟩, ⟨cq6⟩⟩
 case round =>
  clear H'
  obtain ⟨x5_1, x6_1, x1001_1, x1002_1, rfl, HA, HK1, HO_4, HO_5, HI0, HK, HB⟩ := hrel
  cases gk with
  | zero => exact absurd HA.out (by simp [spec_l7Parts.l0])
  | succ k1 =>
   have H := HA.out
   clear HA
   simp only [spec_l7Parts.l0] at H
   have HC16 := Aside0.mk H
   clear H
   go_upto_region 4 with (fail)
   go_cut [23] (fun v23 wc => ∃ (kq : Nat) (x23_15 : Bool), v23 = .bool x23_15 ∧ Aside0 (spec_l7Parts.j1 kq t468 x5_1 x6_1 x23_15 s0_0 x1001_1 x1002_1 = some (r1, r2, r3, r4)) ∧ Aside0 (kq ≤ k1) ∧ Aside0 (Kd.R Kd.string 9 wc w.heap.size (fun k_ => some k_ ≠ (u5 : Value).ownBlock) v469 t468) ∧ Aside0 (Kd.R Kd.string 9 wc w.heap.size (fun k_ => some k_ ≠ (v469 : Value).ownBlock) u5 x5_1) ∧ Aside0 (IsS110 w0 wc g s0_0 x1001_1 x1002_1) ∧ Aside0 (uV w wc g none) ∧ Aside0 (Below w0.heap.size w0 wc))
   case first =>
    have H := HC16.out
    clear HC16
    by_cases c17 : x6_1 > 0
    rotate_left
    ·rw [if_neg c17] at H
     have c17b0 := decide_eq_false c17
     clear c17
     (first | rw [c17b0] | (simp only [vM, vO]; rw [c17b0]) | skip)
     have H' := Aside0.mk H
     clear H
     go_wp2
     go_meet
     case rel => exact ⟨_, (false), vD, H', ⟨by have := HK1.out; first | omega | exact Nat.le_refl _⟩, ⟨cq148⟩, ⟨cq27⟩, ⟨cq3⟩, ⟨cq11⟩, ⟨cq6⟩⟩
    rw [if_pos c17] at H
    have c17b0 := decide_eq_true c17
    clear c17
    (first | rw [c17b0] | (simp only [vM, vO]; rw [c17b0]) | skip)
    have H' := Aside0.mk H
    clear H
    obtain ⟨Ao18, co18, eo18⟩ := Kd.uS HO_4.out
    subst eo18
    go_wp2
    go_meet
    case rel => exact ⟨_, (decide ((t468.length : Int) > 0)), vD, H', ⟨by have := HK1.out; first | omega | exact Nat.le_refl _⟩, ⟨cq148⟩, ⟨cq27⟩, ⟨cq3⟩, ⟨cq11⟩, ⟨cq6⟩⟩
   case rest =>
    clear HC16
    obtain ⟨kq, x23_15, rfl, HA, HJ15, HO_4, HO_5, HI0, HK, HB⟩ := hcut
    cases kq with
    | zero => exact absurd HA.out (by simp [spec_l7Parts.j1])
    | succ kj15 =>
     have H := HA.out
     clear HA
     simp only [spec_l7Parts.j1] at H
     by_cases c19 : x23_15 = true
     rotate_left
     ·replace c19 := Bool.eq_false_iff.mpr c19
      subst c19
      try rw [if_neg (show ¬ (false = true) by decide)] at H
      simp only [Option.some.injEq, Prod.mk.injEq] at H
      obtain ⟨rfl, rfl, rfl, rfl⟩ := H
      go_wp2
      go_ret2
      exact ⟨_, _, cq5, cq148, cq27, cq3, cq6, cq11⟩
     subst c19
     try rw [if_pos rfl] at H
     replace H := Option.bind_eq_some_iff.mp H
     obtain ⟨⟨t477, t478, t479⟩, A200, H⟩ := H
     try dsimp only at H
     have A20 := Aside0.mk A200
     clear A200
     obtain ⟨c21b0, H⟩ := ifD H
     obtain ⟨c22b0, H⟩ := ifD H
     replace H := Option.bind_eq_some_iff.mp H
     obtain ⟨⟨t481, t482⟩, A230, H⟩ := H
     try dsimp only at H
     have A23 := Aside0.mk A230
     clear A230
     have H' := Aside0.mk H
     clear H
     obtain ⟨Ao24, co24, eo24⟩ := Kd.uS HO_4.out
     subst eo24
     go_wp2_with (first | ((with_reducible refine uB (f := 52) rfl ?_); refine uL (some 32) Tryd.func52 #[.pointer (some ⟨g, 0, none⟩), .int .i64 (t468.length : Int)] ?_; (with_reducible refine (spec_l1Below.calls g s0_0 x1001_1 x1002_1 (t468.length : Int) t477 t478 t479 w0 _ ?side1 ?side2 A20.out).mono ?_); (case side1 => exact cq3); (case side2 => exact cq6); rintro e w25 ⟨rfl, hi, hb, hk⟩; refine ⟨_, rfl, ?_⟩; replace HO_4 := Aside0.mk (Kd.uG (Kd.vB (IsS110.apart (show IsS110 w0 _ g s0_0 x1001_1 x1002_1 from by repeat (first | (with_reducible first | exact HI0.out | apply IsS110.alloc | apply IsS110.drewN | apply IsS110.drew | apply IsS110.set_1 | apply IsS110.set_2) | exact HI0.out)) (uT HO_4.out) (by decide)) hk (fun _ h => h.2)) (fun _ h => h.1)); replace HO_5 := Aside0.mk (Kd.uG (Kd.vB (IsS110.apart (show IsS110 w0 _ g s0_0 x1001_1 x1002_1 from by repeat (first | (with_reducible first | exact HI0.out | apply IsS110.alloc | apply IsS110.drewN | apply IsS110.drew | apply IsS110.set_1 | apply IsS110.set_2) | exact HI0.out)) (uT HO_5.out) (by decide)) hk (fun _ h => h.2)) (fun _ h => h.1)); replace HK := uX HK hk; replace HB := Aside0.mk (hb); replace HI0 := Aside0.mk (hi); (try clear hb); (try clear hk); (try clear hi); have p480 : 0 ≤ (t477 : Int) := of_decide_eq_true vC; have q480 : t477 < (t468.length : Int) := of_decide_eq_true vC; obtain ⟨ad480, e480, hx480_0⟩ := Kd.vS (Kd.uY HO_4.out).2.2 t477 p480 q480; cases e480; replace p480 := eq_true p480; replace q480 := eq_true q480; obtain ⟨Ao26, co26, eo26⟩ := Kd.uS HO_5.out; subst eo26) | ((with_reducible refine uB (f := 23) rfl ?_); refine uL (some 35) Tryd.func23 #[.slice Ao26 x5_1.length co26, .string (rdOf ByteArray.empty t468 t477)] ?_; (with_reducible refine (spec_ReceiveChunk.calls kj15 _ _ x5_1 (rdOf ByteArray.empty t468 t477) t481 t482 _ ?side1 ?side2 A23.out).mono ?_); (case side1 => exact cq53); (case side2 => exact (Kd.uY HO_5.out).2.1); rintro e w27 ⟨v483, rfl, ho0, hb⟩; refine ⟨_, rfl, ?_⟩; have HO484 := Aside0.mk (Kd.uN (Kd.vJ (Kd.vJ ho0 (Kd.R_lt (uT HO_4.out))) (Kd.R_lt (uT HO_5.out))) (vG (w := w) (g := g) (row := none) cq11)); replace HO_4 := Aside0.mk (Kd.vF (uT HO_4.out) (Kd.vK ho0) hb); replace HO_5 := Aside0.mk (Kd.vF (uT HO_5.out) (Kd.vK ho0) hb); replace HI0 := Aside0.mk (IsS110.below cq3 hb); replace HK := uX HK (uV.of_below hb g none); replace HB := tBel1 HB hb; (try clear hb); (try clear ho0)))
     go_roundg kj15
     case measure => have := HK1.out; have := HJ15.out; omega
     case rel => exact ⟨(t481), (wrap64 (x6_1 - 1)), (t478), (t479), vD, H', ⟨by have := HK1.out; have := HJ15.out; omega⟩, ⟨by (with_reducible repeat (first | apply Kd.uK | apply Kd.uJ | apply Kd.uO)); exact Kd.uG HO_4.out (fun _ hk => hk.2)⟩, ⟨by (with_reducible repeat (first | apply Kd.uK | apply Kd.uJ | apply Kd.uO)); exact Kd.uG HO484.out (fun _ hk => hk.1.2)⟩, ⟨cq3⟩, ⟨cq11⟩, ⟨cq6⟩⟩

/-! ### spec_l1Text: function 95 -/
def spec_l1Text.l0 : Nat → List Int → Int → Int → List Int → Int → Int → Option (ByteArray × Int × Int)
 | 0, _, _, _, _, _, _ => none
 | k + 1, x5, x6, x7, x1000, x1001, x1002 => if x7 > 0 then ((spec_l1Byte.f x1000 x1001 x1002).bind fun bt494 => (if x6 = 1 then (if x6 = 2 then (if x5.length < 140737488355328 then (spec_l1Text.l0 k (x5 ++ [(wrap64 (97 + (Int.tmod (Int.tmod bt494.1 2) 4))) % 256]) x6 (wrap64 (x7 - 1)) x1000 bt494.2.1 bt494.2.2) else (none)) else (if x5.length < 140737488355328 then (spec_l1Text.l0 k (x5 ++ [(Int.tmod bt494.1 2) % 256]) x6 (wrap64 (x7 - 1)) x1000 bt494.2.1 bt494.2.2) else (none))) else (if x6 = 2 then (if x5.length < 140737488355328 then (spec_l1Text.l0 k (x5 ++ [(wrap64 (97 + (Int.tmod bt494.1 4))) % 256]) x6 (wrap64 (x7 - 1)) x1000 bt494.2.1 bt494.2.2) else (none)) else (if x5.length < 140737488355328 then (spec_l1Text.l0 k (x5 ++ [(bt494.1) % 256]) x6 (wrap64 (x7 - 1)) x1000 bt494.2.1 bt494.2.2) else (none))))) else (some (strOfNums x5, x1001, x1002))
def spec_l1Text.f (k : Nat) (s0_0 : List Int) (s0_1 : Int) (s0_2 : Int) (a1 : Int) : Option (ByteArray × Int × Int) := (spec_l1Below.f s0_0 s0_1 s0_2 4).bind fun bt488 => ((spec_l1Below.f s0_0 bt488.2.1 bt488.2.2 (wrap64 (a1 + 1))).bind fun bt491 => (spec_l1Text.l0 k (([] : List Int)) bt488.1 bt491.1 s0_0 bt491.2.1 bt491.2.2))
theorem spec_l1Text.mono_l : ∀ k, (∀ y0 y1 y2 y3 y4 y5, uA (spec_l1Text.l0 k y0 y1 y2 y3 y4 y5) (spec_l1Text.l0 (k + 1) y0 y1 y2 y3 y4 y5))
 | 0 => fun _ _ _ _ _ _ r h => by simp [spec_l1Text.l0] at h
 | k + 1 => by
  have ih0 := spec_l1Text.mono_l k
  intro y0 y1 y2 y3 y4 y5
  unfold spec_l1Text.l0
  repeat' first
  | (with_reducible exact ih0 _ _ _ _ _ _)
  | (with_reducible exact uA.refl _)
  | (with_reducible exact uA.none _)
  | (with_reducible refine uA.vA ?_ ?_)
  | (with_reducible refine uA.bind ?_ (fun _ => ?_))
  | exact ih0 _ _ _ _ _ _
  | exact uA.none _
  | refine uA.vA ?_ ?_
  | refine uA.bind ?_ (fun _ => ?_)
theorem spec_l1Text.mono : ∀ a0 a1 a2 a3 k, uA (spec_l1Text.f k a0 a1 a2 a3) (spec_l1Text.f (k + 1) a0 a1 a2 a3) := by
 intro a0 a1 a2 a3 k
 have ih0 := spec_l1Text.mono_l k
 unfold spec_l1Text.f
 repeat' first
   | (with_reducible exact ih0 _ _ _ _ _ _)
   | (with_reducible exact uA.refl _)
   | (with_reducible exact uA.none _)
   | (with_reducible refine uA.vA ?_ ?_)
   | (with_reducible refine uA.bind ?_ (fun _ => ?_))
   | exact ih0 _ _ _ _ _ _
   | exact uA.none _
   | refine uA.vA ?_ ?_
   | refine uA.bind ?_ (fun _ => ?_)
set_option maxHeartbeats 8000000 in
set_option maxRecDepth 100000 in
theorem spec_l1Text.calls (k : Nat) (g : Nat) (s0_0 : List Int) (s0_1 : Int) (s0_2 : Int) (a1 : Int) (r1 : ByteArray) (r2 : Int) (r3 : Int) (w0 w : World) (hI : IsS110 w0 w g s0_0 s0_1 s0_2) (hB : Below w0.heap.size w0 w) (h : spec_l1Text.f k s0_0 s0_1 s0_2 a1 = some (r1, r2, r3)) :
  Calls Tryd.prog 95 #[.pointer (some ⟨g, 0, none⟩), .int .i64 a1] w fun e w' => e = .returned (.string r1) ∧ IsS110 w0 w' g s0_0 r2 r3 ∧ Below w0.heap.size w0 w' ∧ uV w w' g none := by
 have HI0 := Aside0.mk hI
 have HK := Aside0.mk (uV.refl w g none)
 have HL := Aside0.mk hB.size
 clear hI
 have HW0 := Aside0.mk hB.size
 have HB := Aside0.mk hB
 clear hB
 have H : ((spec_l1Below.f s0_0 s0_1 s0_2 4).bind fun bt488 => ((spec_l1Below.f s0_0 bt488.2.1 bt488.2.2 (wrap64 (a1 + 1))).bind fun bt491 => (spec_l1Text.l0 k (([] : List Int)) bt488.1 bt491.1 s0_0 bt491.2.1 bt491.2.2))) = some (r1, r2, r3) := h
 clear h
 obtain ⟨y485, hy485⟩ : ∃ y_ : List Int, y_ = (([] : List Int)) := ⟨_, rfl⟩
 replace H : ((spec_l1Below.f s0_0 s0_1 s0_2 4).bind fun bt488 => ((spec_l1Below.f s0_0 bt488.2.1 bt488.2.2 (wrap64 (a1 + 1))).bind fun bt491 => (spec_l1Text.l0 k y485 bt488.1 bt491.1 s0_0 bt491.2.1 bt491.2.2))) = some (r1, r2, r3) := rpl hy485 H
 have Ny485 := Aside0.mk hy485
 clear hy485
 replace H := Option.bind_eq_some_iff.mp H
 obtain ⟨⟨t488, t489, t490⟩, A30, H⟩ := H
 try dsimp only at H
 have A3 := Aside0.mk A30
 clear A30
 replace H := Option.bind_eq_some_iff.mp H
 obtain ⟨⟨t491, t492, t493⟩, A40, H⟩ := H
 try dsimp only at H
 have A4 := Aside0.mk A40
 clear A40
 have H' := Aside0.mk H
 clear H
 go_enter Tryd.func95, Tryd.ntmps95
 go_wp2_with (first | ((with_reducible refine uQ (N := 9) rfl ?_); refine Kd.R_lit (Kd.int .u8) _ 5 ?hg (N := 9) ?hd (xs := ([] : List Int)) (inner := []) (ok := fun _ => True) (okp := fun _ => True) ?hr ?hp (fun _ hk => hk) trivial (Below.refl _ _) (Nat.le_refl _) (by simp) ?_; (case hd => rfl); (case hg => rfl); (case hr => first | (go_simp; done) | (go_simp; rfl)); (case hp => exact (Reps.none _ _)); intro v486 w5 ho6 hb hg_ hnew_; clear hg_ hnew_; (first | rw [← Ny485.out] at ho6 | (simp only [Int.reduceToNat] at ho6; rw [← Ny485.out] at ho6)); have HO487 := Aside0.mk (Kd.uN ho6 (vG (w := w) (g := g) (row := none) cq11)); replace HI0 := Aside0.mk (IsS110.below cq3 hb); replace HK := uX HK (uV.of_below hb g none); replace HB := tBel1 HB hb; clear hb ho6) | ((with_reducible refine uB (f := 52) rfl ?_); refine uL (some 11) Tryd.func52 #[.pointer (some ⟨g, 0, none⟩), .int .i64 4] ?_; (with_reducible refine (spec_l1Below.calls g s0_0 s0_1 s0_2 4 t488 t489 t490 w0 _ ?side1 ?side2 A3.out).mono ?_); (case side1 => exact cq3); (case side2 => exact cq6); rintro e w7 ⟨rfl, hi, hb, hk⟩; refine ⟨_, rfl, ?_⟩; replace HO487 := Aside0.mk (Kd.uG (Kd.vB (IsS110.apart (show IsS110 w0 _ g s0_0 s0_1 s0_2 from by repeat (first | (with_reducible first | exact HI0.out | apply IsS110.alloc | apply IsS110.drewN | apply IsS110.drew | apply IsS110.set_1 | apply IsS110.set_2) | exact HI0.out)) (uT HO487.out) (by decide)) hk (fun _ h => h.2)) (fun _ h => h.1)); replace HK := uX HK hk; replace HB := Aside0.mk (hb); replace HI0 := Aside0.mk (hi); (try clear hb); (try clear hk); (try clear hi)) | ((with_reducible refine uB (f := 52) rfl ?_); refine uL (some 15) Tryd.func52 #[.pointer (some ⟨g, 0, none⟩), .int .i64 (wrap64 (a1 + 1))] ?_; (with_reducible refine (spec_l1Below.calls g s0_0 t489 t490 (wrap64 (a1 + 1)) t491 t492 t493 w0 _ ?side1 ?side2 A4.out).mono ?_); (case side1 => exact cq3); (case side2 => exact cq6); rintro e w8 ⟨rfl, hi, hb, hk⟩; refine ⟨_, rfl, ?_⟩; replace HO487 := Aside0.mk (Kd.uG (Kd.vB (IsS110.apart (show IsS110 w0 _ g s0_0 t489 t490 from by repeat (first | (with_reducible first | exact HI0.out | apply IsS110.alloc | apply IsS110.drewN | apply IsS110.drew | apply IsS110.set_1 | apply IsS110.set_2) | exact HI0.out)) (uT HO487.out) (by decide)) hk (fun _ h => h.2)) (fun _ h => h.1)); replace HK := uX HK hk; replace HB := Aside0.mk (hb); replace HI0 := Aside0.mk (hi); (try clear hb); (try clear hk); (try clear hi)))
 go_loopg [5, 7] k (fun kq v5 v7 w' => ∃ (x5_1 : List Int) (x7_1 : Int) (x1001_1 : Int) (x1002_1 : Int), v7 = .int .i64 x7_1 ∧ Aside0 (spec_l1Text.l0 kq x5_1 t488 x7_1 s0_0 x1001_1 x1002_1 = some (r1, r2, r3)) ∧ Aside0 (kq ≤ k) ∧ Aside0 (Kd.R (Kd.int .u8) 5 w' w.heap.size (fun _ => True) v5 x5_1) ∧ Aside0 (IsS110 w0 w' g s0_0 x1001_1 x1002_1) ∧ Aside0 (uV w w' g none) ∧ Aside0 (Below w0.heap.size w0 w'))
 case atStart => exact ⟨(y485), (t491), (t492), (t493), vD, H', ⟨Nat.le_refl _⟩, ⟨by (with_reducible repeat (first | apply Kd.uK | apply Kd.uJ | apply Kd.uO)); exact HO487.out⟩, ⟨cq3⟩, ⟨cq11⟩, ⟨cq6⟩⟩
 case round =>
  clear H'
  obtain ⟨x5_1, x7_1, x1001_1, x1002_1, rfl, HA, HK1, HO_5, HI0, HK, HB⟩ := hrel
  cases gk with
  | zero => exact absurd HA.out (by simp [spec_l1Text.l0])
  | succ k1 =>
   have H := HA.out
   clear HA
   simp only [spec_l1Text.l0] at H
   by_cases c9 : x7_1 > 0
   rotate_left
   ·rw [if_neg c9] at H
    have c9b0 := decide_eq_false c9
    clear c9
    simp only [Option.some.injEq, Prod.mk.injEq] at H
    obtain ⟨rfl, rfl, rfl⟩ := H
    have hcv26 := own_string (P := Tryd.prog) Tryd.underlying22 Tryd.underlying5 Tryd.underlying9 (Kd.own_of_R HO_5.out)
    go_wp2
    go_ret
    exact ⟨cq5, cq3, cq6, cq11⟩
   rw [if_pos c9] at H
   have c9b0 := decide_eq_true c9
   clear c9
   replace H := Option.bind_eq_some_iff.mp H
   obtain ⟨⟨t494, t495, t496⟩, A100, H⟩ := H
   try dsimp only at H
   have A10 := Aside0.mk A100
   clear A100
   by_cases c11 : t488 = 1
   rotate_left
   ·rw [if_neg c11] at H
    have c11b0 := beq_eq_false_iff_ne.mpr c11
    have c11b1 := bne_iff_ne.mpr c11
    by_cases c19 : t488 = 2
    rotate_left
    ·rw [if_neg c19] at H
     have c19b0 := beq_eq_false_iff_ne.mpr c19
     have c19b1 := bne_iff_ne.mpr c19
     obtain ⟨LMc23, H⟩ := ifL H
     obtain ⟨y506, hy506⟩ : ∃ y_ : List Int, y_ = (x5_1 ++ [(t494) % 256]) := ⟨_, rfl⟩
     replace H : (spec_l1Text.l0 k1 y506 t488 (wrap64 (x7_1 - 1)) s0_0 t495 t496) = some (r1, r2, r3) := rpl hy506 H
     have Ny506 := Aside0.mk hy506
     clear hy506
     have H' := Aside0.mk H
     clear H
     go_wp2_with (first | ((with_reducible refine uB (f := 94) rfl ?_); refine uL (some 21) Tryd.func94 #[.pointer (some ⟨g, 0, none⟩)] ?_; (with_reducible refine (spec_l1Byte.calls g s0_0 x1001_1 x1002_1 t494 t495 t496 w0 _ ?side1 ?side2 A10.out).mono ?_); (case side1 => exact cq3); (case side2 => exact cq6); rintro e w24 ⟨rfl, hi, hb, hk⟩; refine ⟨_, rfl, ?_⟩; replace HO_5 := Aside0.mk (Kd.uG (Kd.vB (IsS110.apart (show IsS110 w0 _ g s0_0 x1001_1 x1002_1 from by repeat (first | (with_reducible first | exact HI0.out | apply IsS110.alloc | apply IsS110.drewN | apply IsS110.drew | apply IsS110.set_1 | apply IsS110.set_2) | exact HI0.out)) (uT HO_5.out) (by decide)) hk (fun _ h => h.2)) (fun _ h => h.1)); replace HK := uX HK hk; replace HB := Aside0.mk (hb); replace HI0 := Aside0.mk (hi); (try clear hb); (try clear hk); (try clear hi)) | ((with_reducible refine gate_builtin (b := .append) (xs := #[.tmp 31, .tmp 34]) rfl ?_); at_builtin; refine Kd.R_append (Kd.int .u8) w.heap.size rfl (.tmp 31) (.tmp 34) 22 5 (.int .u8 0) 1 rfl Tryd.underlying22 info5 rfl (by decide) (by omega) u5 x5_1 ((t494) % 256) [.int .u8 ((t494) % 256)] (fun _ => True) (fun _ => False) rfl rfl ?aP (fun _ hk => hk.elim) ?aF ?aO (Below.refl _ _) ?aS ?aL ?_; (case aP => exact rfl); (case aF => exact (fun _ _ => trivial)); (case aO => exact (uT HO_5.out)); (case aS => exact cq45); (case aL => have := LMc23.out; omega); intro v507 w25 ho hb hg hat; rw [← Ny506.out] at ho; have n0_ := IsS110.tgr HI0 hg (IsS110.own_ne HI0.out HO_5.out (by decide)); have n1_ := Aside0.mk (below_weaken cq6 HL.out hb); have n2_ := Aside0.mk (uV.trans cq11 (uV.of_grown hg g) (Kd.R_base2 HO_5.out)); have n3_ := Aside0.mk (ho); clear HI0; clear HB; clear HK; clear HO_5; have HI0 := n0_; have HB := n1_; have HK := n2_; have HO508 := n3_; clear n0_ n1_ n2_ n3_; clear ho hb hg hat))
     go_roundg k1
     case measure => have := HK1.out; omega
     case rel => exact ⟨(y506), (wrap64 (x7_1 - 1)), (t495), (t496), vD, H', ⟨by have := HK1.out; omega⟩, ⟨by (with_reducible repeat (first | apply Kd.uK | apply Kd.uJ | apply Kd.uO)); exact HO508.out⟩, ⟨cq3⟩, ⟨cq11⟩, ⟨cq6⟩⟩
    rw [if_pos c19] at H
    have c19b0 := beq_iff_eq.mpr c19
    have c19b1 := bne_eq_false_iff_eq.mpr c19
    clear c19
    obtain ⟨LMc20, H⟩ := ifL H
    obtain ⟨y503, hy503⟩ : ∃ y_ : List Int, y_ = (x5_1 ++ [(wrap64 (97 + (Int.tmod t494 4))) % 256]) := ⟨_, rfl⟩
    replace H : (spec_l1Text.l0 k1 y503 t488 (wrap64 (x7_1 - 1)) s0_0 t495 t496) = some (r1, r2, r3) := rpl hy503 H
    have Ny503 := Aside0.mk hy503
    clear hy503
    have H' := Aside0.mk H
    clear H
    go_wp2_with (first | ((with_reducible refine uB (f := 94) rfl ?_); refine uL (some 21) Tryd.func94 #[.pointer (some ⟨g, 0, none⟩)] ?_; (with_reducible refine (spec_l1Byte.calls g s0_0 x1001_1 x1002_1 t494 t495 t496 w0 _ ?side1 ?side2 A10.out).mono ?_); (case side1 => exact cq3); (case side2 => exact cq6); rintro e w21 ⟨rfl, hi, hb, hk⟩; refine ⟨_, rfl, ?_⟩; replace HO_5 := Aside0.mk (Kd.uG (Kd.vB (IsS110.apart (show IsS110 w0 _ g s0_0 x1001_1 x1002_1 from by repeat (first | (with_reducible first | exact HI0.out | apply IsS110.alloc | apply IsS110.drewN | apply IsS110.drew | apply IsS110.set_1 | apply IsS110.set_2) | exact HI0.out)) (uT HO_5.out) (by decide)) hk (fun _ h => h.2)) (fun _ h => h.1)); replace HK := uX HK hk; replace HB := Aside0.mk (hb); replace HI0 := Aside0.mk (hi); (try clear hb); (try clear hk); (try clear hi)) | ((with_reducible refine gate_builtin (b := .append) (xs := #[.tmp 31, .tmp 34]) rfl ?_); at_builtin; refine Kd.R_append (Kd.int .u8) w.heap.size rfl (.tmp 31) (.tmp 34) 22 5 (.int .u8 0) 1 rfl Tryd.underlying22 info5 rfl (by decide) (by omega) u5 x5_1 ((wrap64 (97 + (Int.tmod t494 4))) % 256) [.int .u8 ((wrap64 (97 + (Int.tmod t494 4))) % 256)] (fun _ => True) (fun _ => False) rfl rfl ?aP (fun _ hk => hk.elim) ?aF ?aO (Below.refl _ _) ?aS ?aL ?_; (case aP => exact rfl); (case aF => exact (fun _ _ => trivial)); (case aO => exact (uT HO_5.out)); (case aS => exact cq45); (case aL => have := LMc20.out; omega); intro v504 w22 ho hb hg hat; rw [← Ny503.out] at ho; have n0_ := IsS110.tgr HI0 hg (IsS110.own_ne HI0.out HO_5.out (by decide)); have n1_ := Aside0.mk (below_weaken cq6 HL.out hb); have n2_ := Aside0.mk (uV.trans cq11 (uV.of_grown hg g) (Kd.R_base2 HO_5.out)); have n3_ := Aside0.mk (ho); clear HI0; clear HB; clear HK; clear HO_5; have HI0 := n0_; have HB := n1_; have HK := n2_; have HO505 := n3_; clear n0_ n1_ n2_ n3_; clear ho hb hg hat))
    go_roundg k1
    case measure => have := HK1.out; omega
    case rel => exact ⟨(y503), (wrap64 (x7_1 - 1)), (t495), (t496), vD, H', ⟨by have := HK1.out; omega⟩, ⟨by (with_reducible repeat (first | apply Kd.uK | apply Kd.uJ | apply Kd.uO)); exact HO505.out⟩, ⟨cq3⟩, ⟨cq11⟩, ⟨cq6⟩⟩
   rw [if_pos c11] at H
   have c11b0 := beq_iff_eq.mpr c11
   have c11b1 := bne_eq_false_iff_eq.mpr c11
   clear c11
   by_cases c12 : t488 = 2
   rotate_left
   ·rw [if_neg c12] at H
    have c12b0 := beq_eq_false_iff_ne.mpr c12
    have c12b1 := bne_iff_ne.mpr c12
    obtain ⟨LMc16, H⟩ := ifL H
    obtain ⟨y500, hy500⟩ : ∃ y_ : List Int, y_ = (x5_1 ++ [(Int.tmod t494 2) % 256]) := ⟨_, rfl⟩
    replace H : (spec_l1Text.l0 k1 y500 t488 (wrap64 (x7_1 - 1)) s0_0 t495 t496) = some (r1, r2, r3) := rpl hy500 H
    have Ny500 := Aside0.mk hy500
    clear hy500
    have H' := Aside0.mk H
    clear H
    go_wp2_with (first | ((with_reducible refine uB (f := 94) rfl ?_); refine uL (some 21) Tryd.func94 #[.pointer (some ⟨g, 0, none⟩)] ?_; (with_reducible refine (spec_l1Byte.calls g s0_0 x1001_1 x1002_1 t494 t495 t496 w0 _ ?side1 ?side2 A10.out).mono ?_); (case side1 => exact cq3); (case side2 => exact cq6); rintro e w17 ⟨rfl, hi, hb, hk⟩; refine ⟨_, rfl, ?_⟩; replace HO_5 := Aside0.mk (Kd.uG (Kd.vB (IsS110.apart (show IsS110 w0 _ g s0_0 x1001_1 x1002_1 from by repeat (first | (with_reducible first | exact HI0.out | apply IsS110.alloc | apply IsS110.drewN | apply IsS110.drew | apply IsS110.set_1 | apply IsS110.set_2) | exact HI0.out)) (uT HO_5.out) (by decide)) hk (fun _ h => h.2)) (fun _ h => h.1)); replace HK := uX HK hk; replace HB := Aside0.mk (hb); replace HI0 := Aside0.mk (hi); (try clear hb); (try clear hk); (try clear hi)) | ((with_reducible refine gate_builtin (b := .append) (xs := #[.tmp 31, .tmp 34]) rfl ?_); at_builtin; refine Kd.R_append (Kd.int .u8) w.heap.size rfl (.tmp 31) (.tmp 34) 22 5 (.int .u8 0) 1 rfl Tryd.underlying22 info5 rfl (by decide) (by omega) u5 x5_1 ((Int.tmod t494 2) % 256) [.int .u8 ((Int.tmod t494 2) % 256)] (fun _ => True) (fun _ => False) rfl rfl ?aP (fun _ hk => hk.elim) ?aF ?aO (Below.refl _ _) ?aS ?aL ?_; (case aP => exact rfl); (case aF => exact (fun _ _ => trivial)); (case aO => exact (uT HO_5.out)); (case aS => exact cq45); (case aL => have := LMc16.out; omega); intro v501 w18 ho hb hg hat; rw [← Ny500.out] at ho; have n0_ := IsS110.tgr HI0 hg (IsS110.own_ne HI0.out HO_5.out (by decide)); have n1_ := Aside0.mk (below_weaken cq6 HL.out hb); have n2_ := Aside0.mk (uV.trans cq11 (uV.of_grown hg g) (Kd.R_base2 HO_5.out)); have n3_ := Aside0.mk (ho); clear HI0; clear HB; clear HK; clear HO_5; have HI0 := n0_; have HB := n1_; have HK := n2_; have HO502 := n3_; clear n0_ n1_ n2_ n3_; clear ho hb hg hat))
    go_roundg k1
    case measure => have := HK1.out; omega
    case rel => exact ⟨(y500), (wrap64 (x7_1 - 1)), (t495), (t496), vD, H', ⟨by have := HK1.out; omega⟩, ⟨by (with_reducible repeat (first | apply Kd.uK | apply Kd.uJ | apply Kd.uO)); exact HO502.out⟩, ⟨cq3⟩, ⟨cq11⟩, ⟨cq6⟩⟩
   rw [if_pos c12] at H
   have c12b0 := beq_iff_eq.mpr c12
   have c12b1 := bne_eq_false_iff_eq.mpr c12
   clear c12
   obtain ⟨LMc13, H⟩ := ifL H
   obtain ⟨y497, hy497⟩ : ∃ y_ : List Int, y_ = (x5_1 ++ [(wrap64 (97 + (Int.tmod (Int.tmod t494 2) 4))) % 256]) := ⟨_, rfl⟩
   replace H : (spec_l1Text.l0 k1 y497 t488 (wrap64 (x7_1 - 1)) s0_0 t495 t496) = some (r1, r2, r3) := rpl hy497 H
   have Ny497 := Aside0.mk hy497
   clear hy497
   have H' := Aside0.mk H
   clear H
   go_wp2_with (first | ((with_reducible refine uB (f := 94) rfl ?_); refine uL (some 21) Tryd.func94 #[.pointer (some ⟨g, 0, none⟩)] ?_; (with_reducible refine (spec_l1Byte.calls g s0_0 x1001_1 x1002_1 t494 t495 t496 w0 _ ?side1 ?side2 A10.out).mono ?_); (case side1 => exact cq3); (case side2 => exact cq6); rintro e w14 ⟨rfl, hi, hb, hk⟩; refine ⟨_, rfl, ?_⟩; replace HO_5 := Aside0.mk (Kd.uG (Kd.vB (IsS110.apart (show IsS110 w0 _ g s0_0 x1001_1 x1002_1 from by repeat (first | (with_reducible first | exact HI0.out | apply IsS110.alloc | apply IsS110.drewN | apply IsS110.drew | apply IsS110.set_1 | apply IsS110.set_2) | exact HI0.out)) (uT HO_5.out) (by decide)) hk (fun _ h => h.2)) (fun _ h => h.1)); replace HK := uX HK hk; replace HB := Aside0.mk (hb); replace HI0 := Aside0.mk (hi); (try clear hb); (try clear hk); (try clear hi)) | ((with_reducible refine gate_builtin (b := .append) (xs := #[.tmp 31, .tmp 34]) rfl ?_); at_builtin; refine Kd.R_append (Kd.int .u8) w.heap.size rfl (.tmp 31) (.tmp 34) 22 5 (.int .u8 0) 1 rfl Tryd.underlying22 info5 rfl (by decide) (by omega) u5 x5_1 ((wrap64 (97 + (Int.tmod (Int.tmod t494 2) 4))) % 256) [.int .u8 ((wrap64 (97 + (Int.tmod (Int.tmod t494 2) 4))) % 256)] (fun _ => True) (fun _ => False) rfl rfl ?aP (fun _ hk => hk.elim) ?aF ?aO (Below.refl _ _) ?aS ?aL ?_; (case aP => exact rfl); (case aF => exact (fun _ _ => trivial)); (case aO => exact (uT HO_5.out)); (case aS => exact cq45); (case aL => have := LMc13.out; omega); intro v498 w15 ho hb hg hat; rw [← Ny497.out] at ho; have n0_ := IsS110.tgr HI0 hg (IsS110.own_ne HI0.out HO_5.out (by decide)); have n1_ := Aside0.mk (below_weaken cq6 HL.out hb); have n2_ := Aside0.mk (uV.trans cq11 (uV.of_grown hg g) (Kd.R_base2 HO_5.out)); have n3_ := Aside0.mk (ho); clear HI0; clear HB; clear HK; clear HO_5; have HI0 := n0_; have HB := n1_; have HK := n2_; have HO499 := n3_; clear n0_ n1_ n2_ n3_; clear ho hb hg hat))
   go_roundg k1
   case measure => have := HK1.out; omega
   case rel => exact ⟨(y497), (wrap64 (x7_1 - 1)), (t495), (t496), vD, H', ⟨by have := HK1.out; omega⟩, ⟨by (with_reducible repeat (first | apply Kd.uK | apply Kd.uJ | apply Kd.uO)); exact HO499.out⟩, ⟨cq3⟩, ⟨cq11⟩, ⟨cq6⟩⟩

end Go.Proofs.YtcikahnmiiichaaDoor.K
