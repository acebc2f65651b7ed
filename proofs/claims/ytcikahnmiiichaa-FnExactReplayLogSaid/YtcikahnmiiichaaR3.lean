/- Go functions as Lean functions, and the proof that the code comes to them: written by a program of this session out of the translation. -/
import Derived.Test.YtcikahnmiiichaaR0
import Derived.Test.YtcikahnmiiichaaR2
namespace Go.Proofs.Ytcikahnmiiichaa.R
open List renaming setIfInBounds_toArray → vS, set_cons_zero → vT, set_cons_succ → vU, map_toArray → vV, length_take → vW, length_drop → vX
open Go.World renaming block_lt_of_cell? → vY
open Go.RowKit Go.Proofs.YtcikahnmiiichaaW.PrintWords Go.Proofs.YtcikahnmiiichaaW.PrintLast Go.Proofs.YtcikahnmiiichaaW.PrintMore
attribute [local go_sem] max2_int min2_int max_two min_two max_three min_three max_four min_four   -- for this text's walks alone
set_option linter.unusedVariables false
set_option linter.unusedSimpArgs false

/-! ### laws_eqEntry: function 69 -/
def laws_eqEntry.f (a0_0 : Int) (a0_1 : Int) (a0_2 : Int) (a0_3 : Int) (a0_4 : Int) (a0_5 : Int) (a0_6 : Int) (a1_0 : Int) (a1_1 : Int) (a1_2 : Int) (a1_3 : Int) (a1_4 : Int) (a1_5 : Int) (a1_6 : Int) : Option (Bool) := if a0_0 = a1_0 then ((laws_eqOp.f a0_1 a0_2 a0_3 a0_4 a0_5 a0_6 a1_1 a1_2 a1_3 a1_4 a1_5 a1_6).bind fun t161 => (if t161 = true then (some true) else (some false))) else (some false)
set_option maxHeartbeats 8000000 in
set_option maxRecDepth 100000 in
theorem laws_eqEntry.calls (a0_0 : Int) (a0_1 : Int) (a0_2 : Int) (a0_3 : Int) (a0_4 : Int) (a0_5 : Int) (a0_6 : Int) (a1_0 : Int) (a1_1 : Int) (a1_2 : Int) (a1_3 : Int) (a1_4 : Int) (a1_5 : Int) (a1_6 : Int) (r : Bool) (w : World) (h : laws_eqEntry.f a0_0 a0_1 a0_2 a0_3 a0_4 a0_5 a0_6 a1_0 a1_1 a1_2 a1_3 a1_4 a1_5 a1_6 = some r) :
    Calls Try.prog 69 #[.agg #[.int .i64 a0_0, .int .i64 a0_1, .int .i64 a0_2, .int .i64 a0_3, .int .i64 a0_4, .int .i64 a0_5, .int .i64 a0_6], .agg #[.int .i64 a1_0, .int .i64 a1_1, .int .i64 a1_2, .int .i64 a1_3, .int .i64 a1_4, .int .i64 a1_5, .int .i64 a1_6]] w fun e w' => e = .returned (.bool r) ∧ Below w.heap.size w w' := by
  have hu72 := Try.underlying72
  have hu37 := Try.underlying37
  have HB := Aside0.mk (Below.refl w.heap.size w)
  have H : (if a0_0 = a1_0 then ((laws_eqOp.f a0_1 a0_2 a0_3 a0_4 a0_5 a0_6 a1_1 a1_2 a1_3 a1_4 a1_5 a1_6).bind fun t161 => (if t161 = true then (some true) else (some false))) else (some false)) = some r := h
  clear h
  by_cases c3 : a0_0 = a1_0
  rotate_left
  · rw [if_neg c3] at H
    have c3b0 : (a0_0 == a1_0) = false := beq_eq_false_iff_ne.mpr c3
    have c3b1 : (a0_0 != a1_0) = true := bne_iff_ne.mpr c3
    obtain rfl := Option.some.inj H
    go_enter Try.func69, Try.ntmps69
    go_wp2_with (first | ((with_reducible refine uS (N := 2) rfl ?_); refine uR ?hg (N := 2) ?hd (cs := #[.int .i64 a0_0, .int .i64 a0_1, .int .i64 a0_2, .int .i64 a0_3, .int .i64 a0_4, .int .i64 a0_5, .int .i64 a0_6]) (t := 72) ?hr ?_; (case hd => rfl); (case hg => rfl); (case hr => first | (go_simp; done) | (go_simp; rfl)); intro gb159 hg w18 hbox hb; have n0_ := Aside0.mk (uP (by repeat (first | (with_reducible first | exact HB.out | apply uC | apply uA | apply uB) | exact HB.out)) hb); have n1_ := Aside0.mk (hbox); have n2_ := Aside0.mk ((by rw [hg]; exact (uK (by repeat (first | (with_reducible first | exact HB.out | apply uC | apply uA | apply uB) | exact HB.out))) : w.heap.size ≤ gb159)); have n3_ := Aside0.mk ((by rw [hg]; exact (uK (by repeat (first | (with_reducible first | exact HB.out | apply uC | apply uA | apply uB) | exact HB.out))) : w.heap.size ≤ gb159)); clear HB; have HB := n0_; have BK159 := n1_; have GW159 := n2_; have GE159 := n3_; clear n0_ n1_ n2_ n3_; clear hb hbox hg) | ((with_reducible refine uS (N := 3) rfl ?_); refine uR ?hg (N := 3) ?hd (cs := #[.int .i64 a1_0, .int .i64 a1_1, .int .i64 a1_2, .int .i64 a1_3, .int .i64 a1_4, .int .i64 a1_5, .int .i64 a1_6]) (t := 72) ?hr ?_; (case hd => rfl); (case hg => rfl); (case hr => first | (go_simp; done) | (go_simp; rfl)); intro gb160 hg w19 hbox hb; have n0_ := Aside0.mk (uT (g := gb159) (o := .cells #[.int .i64 a0_0, .int .i64 a0_1, .int .i64 a0_2, .int .i64 a0_3, .int .i64 a0_4, .int .i64 a0_5, .int .i64 a0_6] 72 (0, 0)) (by (with_reducible repeat (first | refine uG ?_ _ | refine uI ?_ | refine uH ?_ _)); exact BK159.out) hb); have n1_ := Aside0.mk (uP (by repeat (first | (with_reducible first | exact HB.out | apply uC | apply uA | apply uB | refine uF ?_ GE159.out) | exact HB.out)) hb); have n2_ := Aside0.mk (hbox); have n3_ := Aside0.mk ((by rw [hg]; exact (uK (by repeat (first | (with_reducible first | exact HB.out | apply uC | apply uA | apply uB | refine uF ?_ GE159.out) | exact HB.out))) : w.heap.size ≤ gb160)); have n4_ := Aside0.mk ((by rw [hg]; exact (uK (by repeat (first | (with_reducible first | exact HB.out | apply uC | apply uA | apply uB | refine uF ?_ GE159.out) | exact HB.out))) : w.heap.size ≤ gb160)); have n5_ := Aside0.mk ((by rw [hg]; exact Nat.ne_of_lt (vG (g := gb159) (o := .cells #[.int .i64 a0_0, .int .i64 a0_1, .int .i64 a0_2, .int .i64 a0_3, .int .i64 a0_4, .int .i64 a0_5, .int .i64 a0_6] 72 (0, 0)) (by (with_reducible repeat (first | refine uG ?_ _ | refine uI ?_ | refine uH ?_ _)); exact BK159.out)) : gb159 ≠ gb160)); have n6_ := Aside0.mk ((by rw [hg]; exact Nat.ne_of_gt (vG (g := gb159) (o := .cells #[.int .i64 a0_0, .int .i64 a0_1, .int .i64 a0_2, .int .i64 a0_3, .int .i64 a0_4, .int .i64 a0_5, .int .i64 a0_6] 72 (0, 0)) (by (with_reducible repeat (first | refine uG ?_ _ | refine uI ?_ | refine uH ?_ _)); exact BK159.out)) : gb160 ≠ gb159)); clear BK159; clear HB; have BK159 := n0_; have HB := n1_; have BK160 := n2_; have GW160 := n3_; have GE160 := n4_; have NB159_160 := n5_; have NB160_159 := n6_; clear n0_ n1_ n2_ n3_ n4_ n5_ n6_; clear hb hbox hg; have hnb20 := NB159_160.out; have hnc20 := NB160_159.out; have hcz21_0 : w19.cell? ⟨gb159, 0, none⟩ = some (.int .i64 a0_0) := (uE BK159.out 0).trans rfl; have hcz21_1 : w19.cell? ⟨gb159, 1, none⟩ = some (.int .i64 a0_1) := (uE BK159.out 1).trans rfl; have hcz21_2 : w19.cell? ⟨gb159, 2, none⟩ = some (.int .i64 a0_2) := (uE BK159.out 2).trans rfl; have hcz21_3 : w19.cell? ⟨gb159, 3, none⟩ = some (.int .i64 a0_3) := (uE BK159.out 3).trans rfl; have hcz21_4 : w19.cell? ⟨gb159, 4, none⟩ = some (.int .i64 a0_4) := (uE BK159.out 4).trans rfl; have hcz21_5 : w19.cell? ⟨gb159, 5, none⟩ = some (.int .i64 a0_5) := (uE BK159.out 5).trans rfl; have hcz21_6 : w19.cell? ⟨gb159, 6, none⟩ = some (.int .i64 a0_6) := (uE BK159.out 6).trans rfl; have hfz21_0 := uD BK159.out 0; have hfz21_1 := uD BK159.out 1; have hfz21_2 := uD BK159.out 2; have hfz21_3 := uD BK159.out 3; have hfz21_4 := uD BK159.out 4; have hfz21_5 := uD BK159.out 5; have hfz21_6 := uD BK159.out 6; have hcz22_0 : w19.cell? ⟨gb160, 0, none⟩ = some (.int .i64 a1_0) := (uE BK160.out 0).trans rfl; have hcz22_1 : w19.cell? ⟨gb160, 1, none⟩ = some (.int .i64 a1_1) := (uE BK160.out 1).trans rfl; have hcz22_2 : w19.cell? ⟨gb160, 2, none⟩ = some (.int .i64 a1_2) := (uE BK160.out 2).trans rfl; have hcz22_3 : w19.cell? ⟨gb160, 3, none⟩ = some (.int .i64 a1_3) := (uE BK160.out 3).trans rfl; have hcz22_4 : w19.cell? ⟨gb160, 4, none⟩ = some (.int .i64 a1_4) := (uE BK160.out 4).trans rfl; have hcz22_5 : w19.cell? ⟨gb160, 5, none⟩ = some (.int .i64 a1_5) := (uE BK160.out 5).trans rfl; have hcz22_6 : w19.cell? ⟨gb160, 6, none⟩ = some (.int .i64 a1_6) := (uE BK160.out 6).trans rfl; have hfz22_0 := uD BK160.out 0; have hfz22_1 := uD BK160.out 1; have hfz22_2 := uD BK160.out 2; have hfz22_3 := uD BK160.out 3; have hfz22_4 := uD BK160.out 4; have hfz22_5 := uD BK160.out 5; have hfz22_6 := uD BK160.out 6))
    go_ret
    exact ⟨by first | rfl | (simp [errW_none, errW_some] <;> rfl) | (simp [*, errW_none, errW_some] <;> rfl), by repeat (first | (with_reducible first | exact HB.out | apply uC | apply uA | apply uB | refine uF ?_ GE159.out | refine uF ?_ GE160.out) | exact HB.out)⟩
  rw [if_pos c3] at H
  have c3b0 : (a0_0 == a1_0) = true := beq_iff_eq.mpr c3
  have c3b1 : (a0_0 != a1_0) = false := bne_eq_false_iff_eq.mpr c3
  clear c3
  replace H := Option.bind_eq_some_iff.mp H
  obtain ⟨t161, A40, H⟩ := H
  replace H : (if t161 = true then (some true) else (some false)) = some r := H
  have A4 := Aside0.mk A40
  clear A40
  by_cases c5 : t161 = true
  · subst c5
    have H1 : (some true) = some r := by first | (rw [if_pos rfl] at H; exact H) | rfl
    clear H
    have H := H1
    clear H1
    obtain rfl := Option.some.inj H
    go_enter Try.func69, Try.ntmps69
    go_wp2_with (first | ((with_reducible refine uS (N := 2) rfl ?_); refine uR ?hg (N := 2) ?hd (cs := #[.int .i64 a0_0, .int .i64 a0_1, .int .i64 a0_2, .int .i64 a0_3, .int .i64 a0_4, .int .i64 a0_5, .int .i64 a0_6]) (t := 72) ?hr ?_; (case hd => rfl); (case hg => rfl); (case hr => first | (go_simp; done) | (go_simp; rfl)); intro gb159 hg w6 hbox hb; have n0_ := Aside0.mk (uP (by repeat (first | (with_reducible first | exact HB.out | apply uC | apply uA | apply uB) | exact HB.out)) hb); have n1_ := Aside0.mk (hbox); have n2_ := Aside0.mk ((by rw [hg]; exact (uK (by repeat (first | (with_reducible first | exact HB.out | apply uC | apply uA | apply uB) | exact HB.out))) : w.heap.size ≤ gb159)); have n3_ := Aside0.mk ((by rw [hg]; exact (uK (by repeat (first | (with_reducible first | exact HB.out | apply uC | apply uA | apply uB) | exact HB.out))) : w.heap.size ≤ gb159)); clear HB; have HB := n0_; have BK159 := n1_; have GW159 := n2_; have GE159 := n3_; clear n0_ n1_ n2_ n3_; clear hb hbox hg) | ((with_reducible refine uS (N := 3) rfl ?_); refine uR ?hg (N := 3) ?hd (cs := #[.int .i64 a1_0, .int .i64 a1_1, .int .i64 a1_2, .int .i64 a1_3, .int .i64 a1_4, .int .i64 a1_5, .int .i64 a1_6]) (t := 72) ?hr ?_; (case hd => rfl); (case hg => rfl); (case hr => first | (go_simp; done) | (go_simp; rfl)); intro gb160 hg w7 hbox hb; have n0_ := Aside0.mk (uT (g := gb159) (o := .cells #[.int .i64 a0_0, .int .i64 a0_1, .int .i64 a0_2, .int .i64 a0_3, .int .i64 a0_4, .int .i64 a0_5, .int .i64 a0_6] 72 (0, 0)) (by (with_reducible repeat (first | refine uG ?_ _ | refine uI ?_ | refine uH ?_ _)); exact BK159.out) hb); have n1_ := Aside0.mk (uP (by repeat (first | (with_reducible first | exact HB.out | apply uC | apply uA | apply uB | refine uF ?_ GE159.out) | exact HB.out)) hb); have n2_ := Aside0.mk (hbox); have n3_ := Aside0.mk ((by rw [hg]; exact (uK (by repeat (first | (with_reducible first | exact HB.out | apply uC | apply uA | apply uB | refine uF ?_ GE159.out) | exact HB.out))) : w.heap.size ≤ gb160)); have n4_ := Aside0.mk ((by rw [hg]; exact (uK (by repeat (first | (with_reducible first | exact HB.out | apply uC | apply uA | apply uB | refine uF ?_ GE159.out) | exact HB.out))) : w.heap.size ≤ gb160)); have n5_ := Aside0.mk ((by rw [hg]; exact Nat.ne_of_lt (vG (g := gb159) (o := .cells #[.int .i64 a0_0, .int .i64 a0_1, .int .i64 a0_2, .int .i64 a0_3, .int .i64 a0_4, .int .i64 a0_5, .int .i64 a0_6] 72 (0, 0)) (by (with_reducible repeat (first | refine uG ?_ _ | refine uI ?_ | refine uH ?_ _)); exact BK159.out)) : gb159 ≠ gb160)); have n6_ := Aside0.mk ((by rw [hg]; exact Nat.ne_of_gt (vG (g := gb159) (o := .cells #[.int .i64 a0_0, .int .i64 a0_1, .int .i64 a0_2, .int .i64 a0_3, .int .i64 a0_4, .int .i64 a0_5, .int .i64 a0_6] 72 (0, 0)) (by (with_reducible repeat (first | refine uG ?_ _ | refine uI ?_ | refine uH ?_ _)); exact BK159.out)) : gb160 ≠ gb159)); clear BK159; clear HB; have BK159 := n0_; have HB := n1_; have BK160 := n2_; have GW160 := n3_; have GE160 := n4_; have NB159_160 := n5_; have NB160_159 := n6_; clear n0_ n1_ n2_ n3_ n4_ n5_ n6_; clear hb hbox hg; have hnb8 := NB159_160.out; have hnc8 := NB160_159.out; have hcz9_0 : w7.cell? ⟨gb159, 0, none⟩ = some (.int .i64 a0_0) := (uE BK159.out 0).trans rfl; have hcz9_1 : w7.cell? ⟨gb159, 1, none⟩ = some (.int .i64 a0_1) := (uE BK159.out 1).trans rfl; have hcz9_2 : w7.cell? ⟨gb159, 2, none⟩ = some (.int .i64 a0_2) := (uE BK159.out 2).trans rfl; have hcz9_3 : w7.cell? ⟨gb159, 3, none⟩ = some (.int .i64 a0_3) := (uE BK159.out 3).trans rfl; have hcz9_4 : w7.cell? ⟨gb159, 4, none⟩ = some (.int .i64 a0_4) := (uE BK159.out 4).trans rfl; have hcz9_5 : w7.cell? ⟨gb159, 5, none⟩ = some (.int .i64 a0_5) := (uE BK159.out 5).trans rfl; have hcz9_6 : w7.cell? ⟨gb159, 6, none⟩ = some (.int .i64 a0_6) := (uE BK159.out 6).trans rfl; have hfz9_0 := uD BK159.out 0; have hfz9_1 := uD BK159.out 1; have hfz9_2 := uD BK159.out 2; have hfz9_3 := uD BK159.out 3; have hfz9_4 := uD BK159.out 4; have hfz9_5 := uD BK159.out 5; have hfz9_6 := uD BK159.out 6; have hcz10_0 : w7.cell? ⟨gb160, 0, none⟩ = some (.int .i64 a1_0) := (uE BK160.out 0).trans rfl; have hcz10_1 : w7.cell? ⟨gb160, 1, none⟩ = some (.int .i64 a1_1) := (uE BK160.out 1).trans rfl; have hcz10_2 : w7.cell? ⟨gb160, 2, none⟩ = some (.int .i64 a1_2) := (uE BK160.out 2).trans rfl; have hcz10_3 : w7.cell? ⟨gb160, 3, none⟩ = some (.int .i64 a1_3) := (uE BK160.out 3).trans rfl; have hcz10_4 : w7.cell? ⟨gb160, 4, none⟩ = some (.int .i64 a1_4) := (uE BK160.out 4).trans rfl; have hcz10_5 : w7.cell? ⟨gb160, 5, none⟩ = some (.int .i64 a1_5) := (uE BK160.out 5).trans rfl; have hcz10_6 : w7.cell? ⟨gb160, 6, none⟩ = some (.int .i64 a1_6) := (uE BK160.out 6).trans rfl; have hfz10_0 := uD BK160.out 0; have hfz10_1 := uD BK160.out 1; have hfz10_2 := uD BK160.out 2; have hfz10_3 := uD BK160.out 3; have hfz10_4 := uD BK160.out 4; have hfz10_5 := uD BK160.out 5; have hfz10_6 := uD BK160.out 6) | ((with_reducible refine uU (f := 87) rfl ?_); refine vE (some 14) rfl rfl Try.func87 (by kernel_rfl) rfl #[.agg #[.int .i64 a0_1, .int .i64 a0_2, .int .i64 a0_3, .int .i64 a0_4, .int .i64 a0_5, .int .i64 a0_6], .agg #[.int .i64 a1_1, .int .i64 a1_2, .int .i64 a1_3, .int .i64 a1_4, .int .i64 a1_5, .int .i64 a1_6]] rfl (by (try simp only [vV, List.map_cons, List.map_nil]); first | done | rfl | (simp only [vX, vW]; rfl)) ?_; (with_reducible refine (laws_eqOp.calls a0_1 a0_2 a0_3 a0_4 a0_5 a0_6 a1_1 a1_2 a1_3 a1_4 a1_5 a1_6 true _ A4.out).mono ?_); rintro e w11 ⟨rfl, hb⟩; refine ⟨_, rfl, ?_⟩; have n0_ := Aside0.mk (uT (g := gb159) (o := .cells #[.int .i64 a0_0, .int .i64 a0_1, .int .i64 a0_2, .int .i64 a0_3, .int .i64 a0_4, .int .i64 a0_5, .int .i64 a0_6] 72 (0, 0)) (by (with_reducible repeat (first | refine uG ?_ _ | refine uI ?_ | refine uH ?_ _)); exact BK159.out) hb); have n1_ := Aside0.mk (uT (g := gb160) (o := .cells #[.int .i64 a1_0, .int .i64 a1_1, .int .i64 a1_2, .int .i64 a1_3, .int .i64 a1_4, .int .i64 a1_5, .int .i64 a1_6] 72 (0, 0)) (by (with_reducible repeat (first | refine uG ?_ _ | refine uI ?_ | refine uH ?_ _)); exact BK160.out) hb); have n2_ := Aside0.mk (uP (by repeat (first | (with_reducible first | exact HB.out | apply uC | apply uA | apply uB | refine uF ?_ GE159.out | refine uF ?_ GE160.out) | exact HB.out)) hb); clear BK159; clear BK160; clear HB; have BK159 := n0_; have BK160 := n1_; have HB := n2_; clear n0_ n1_ n2_; (try clear hb); (try clear hb2); (try clear hk); (try clear hi)))
    go_ret
    exact ⟨by first | rfl | (simp [errW_none, errW_some] <;> rfl) | (simp [*, errW_none, errW_some] <;> rfl), by repeat (first | (with_reducible first | exact HB.out | apply uC | apply uA | apply uB | refine uF ?_ GE159.out | refine uF ?_ GE160.out) | exact HB.out)⟩
  replace c5 := Bool.eq_false_iff.mpr c5
  subst c5
  have H1 : (some false) = some r := by first | (rw [if_neg (show ¬ (false = true) by decide)] at H; exact H) | rfl
  clear H
  have H := H1
  clear H1
  obtain rfl := Option.some.inj H
  go_enter Try.func69, Try.ntmps69
  go_wp2_with (first | ((with_reducible refine uS (N := 2) rfl ?_); refine uR ?hg (N := 2) ?hd (cs := #[.int .i64 a0_0, .int .i64 a0_1, .int .i64 a0_2, .int .i64 a0_3, .int .i64 a0_4, .int .i64 a0_5, .int .i64 a0_6]) (t := 72) ?hr ?_; (case hd => rfl); (case hg => rfl); (case hr => first | (go_simp; done) | (go_simp; rfl)); intro gb159 hg w12 hbox hb; have n0_ := Aside0.mk (uP (by repeat (first | (with_reducible first | exact HB.out | apply uC | apply uA | apply uB) | exact HB.out)) hb); have n1_ := Aside0.mk (hbox); have n2_ := Aside0.mk ((by rw [hg]; exact (uK (by repeat (first | (with_reducible first | exact HB.out | apply uC | apply uA | apply uB) | exact HB.out))) : w.heap.size ≤ gb159)); have n3_ := Aside0.mk ((by rw [hg]; exact (uK (by repeat (first | (with_reducible first | exact HB.out | apply uC | apply uA | apply uB) | exact HB.out))) : w.heap.size ≤ gb159)); clear HB; have HB := n0_; have BK159 := n1_; have GW159 := n2_; have GE159 := n3_; clear n0_ n1_ n2_ n3_; clear hb hbox hg) | ((with_reducible refine uS (N := 3) rfl ?_); refine uR ?hg (N := 3) ?hd (cs := #[.int .i64 a1_0, .int .i64 a1_1, .int .i64 a1_2, .int .i64 a1_3, .int .i64 a1_4, .int .i64 a1_5, .int .i64 a1_6]) (t := 72) ?hr ?_; (case hd => rfl); (case hg => rfl); (case hr => first | (go_simp; done) | (go_simp; rfl)); intro gb160 hg w13 hbox hb; have n0_ := Aside0.mk (uT (g := gb159) (o := .cells #[.int .i64 a0_0, .int .i64 a0_1, .int .i64 a0_2, .int .i64 a0_3, .int .i64 a0_4, .int .i64 a0_5, .int .i64 a0_6] 72 (0, 0)) (by (with_reducible repeat (first | refine uG ?_ _ | refine uI ?_ | refine uH ?_ _)); exact BK159.out) hb); have n1_ := Aside0.mk (uP (by repeat (first | (with_reducible first | exact HB.out | apply uC | apply uA | apply uB | refine uF ?_ GE159.out) | exact HB.out)) hb); have n2_ := Aside0.mk (hbox); have n3_ := Aside0.mk ((by rw [hg]; exact (uK (by repeat (first | (with_reducible first | exact HB.out | apply uC | apply uA | apply uB | refine uF ?_ GE159.out) | exact HB.out))) : w.heap.size ≤ gb160)); have n4_ := Aside0.mk ((by rw [hg]; exact (uK (by repeat (first | (with_reducible first | exact HB.out | apply uC | apply uA | apply uB | refine uF ?_ GE159.out) | exact HB.out))) : w.heap.size ≤ gb160)); have n5_ := Aside0.mk ((by rw [hg]; exact Nat.ne_of_lt (vG (g := gb159) (o := .cells #[.int .i64 a0_0, .int .i64 a0_1, .int .i64 a0_2, .int .i64 a0_3, .int .i64 a0_4, .int .i64 a0_5, .int .i64 a0_6] 72 (0, 0)) (by (with_reducible repeat (first | refine uG ?_ _ | refine uI ?_ | refine uH ?_ _)); exact BK159.out)) : gb159 ≠ gb160)); have n6_ := Aside0.mk ((by rw [hg]; exact Nat.ne_of_gt (vG (g := gb159) (o := .cells #[.int .i64 a0_0, .int .i64 a0_1, .int .i64 a0_2, .int .i64 a0_3, .int .i64 a0_4, .int .i64 a0_5, .int .i64 a0_6] 72 (0, 0)) (by (with_reducible repeat (first | refine uG ?_ _ | refine uI ?_ | refine uH ?_ _)); exact BK159.out)) : gb160 ≠ gb159)); clear BK159; clear HB; have BK159 := n0_; have HB := n1_; have BK160 := n2_; have GW160 := n3_; have GE160 := n4_; have NB159_160 := n5_; have NB160_159 := n6_; clear n0_ n1_ n2_ n3_ n4_ n5_ n6_; clear hb hbox hg; have hnb14 := NB159_160.out; have hnc14 := NB160_159.out; have hcz15_0 : w13.cell? ⟨gb159, 0, none⟩ = some (.int .i64 a0_0) := (uE BK159.out 0).trans rfl; have hcz15_1 : w13.cell? ⟨gb159, 1, none⟩ = some (.int .i64 a0_1) := (uE BK159.out 1).trans rfl; have hcz15_2 : w13.cell? ⟨gb159, 2, none⟩ = some (.int .i64 a0_2) := (uE BK159.out 2).trans rfl; have hcz15_3 : w13.cell? ⟨gb159, 3, none⟩ = some (.int .i64 a0_3) := (uE BK159.out 3).trans rfl; have hcz15_4 : w13.cell? ⟨gb159, 4, none⟩ = some (.int .i64 a0_4) := (uE BK159.out 4).trans rfl; have hcz15_5 : w13.cell? ⟨gb159, 5, none⟩ = some (.int .i64 a0_5) := (uE BK159.out 5).trans rfl; have hcz15_6 : w13.cell? ⟨gb159, 6, none⟩ = some (.int .i64 a0_6) := (uE BK159.out 6).trans rfl; have hfz15_0 := uD BK159.out 0; have hfz15_1 := uD BK159.out 1; have hfz15_2 := uD BK159.out 2; have hfz15_3 := uD BK159.out 3; have hfz15_4 := uD BK159.out 4; have hfz15_5 := uD BK159.out 5; have hfz15_6 := uD BK159.out 6; have hcz16_0 : w13.cell? ⟨gb160, 0, none⟩ = some (.int .i64 a1_0) := (uE BK160.out 0).trans rfl; have hcz16_1 : w13.cell? ⟨gb160, 1, none⟩ = some (.int .i64 a1_1) := (uE BK160.out 1).trans rfl; have hcz16_2 : w13.cell? ⟨gb160, 2, none⟩ = some (.int .i64 a1_2) := (uE BK160.out 2).trans rfl; have hcz16_3 : w13.cell? ⟨gb160, 3, none⟩ = some (.int .i64 a1_3) := (uE BK160.out 3).trans rfl; have hcz16_4 : w13.cell? ⟨gb160, 4, none⟩ = some (.int .i64 a1_4) := (uE BK160.out 4).trans rfl; have hcz16_5 : w13.cell? ⟨gb160, 5, none⟩ = some (.int .i64 a1_5) := (uE BK160.out 5).trans rfl; have hcz16_6 : w13.cell? ⟨gb160, 6, none⟩ = some (.int .i64 a1_6) := (uE BK160.out 6).trans rfl; have hfz16_0 := uD BK160.out 0; have hfz16_1 := uD BK160.out 1; have hfz16_2 := uD BK160.out 2; have hfz16_3 := uD BK160.out 3; have hfz16_4 := uD BK160.out 4; have hfz16_5 := uD BK160.out 5; have hfz16_6 := uD BK160.out 6) | ((with_reducible refine uU (f := 87) rfl ?_); refine vE (some 14) rfl rfl Try.func87 (by kernel_rfl) rfl #[.agg #[.int .i64 a0_1, .int .i64 a0_2, .int .i64 a0_3, .int .i64 a0_4, .int .i64 a0_5, .int .i64 a0_6], .agg #[.int .i64 a1_1, .int .i64 a1_2, .int .i64 a1_3, .int .i64 a1_4, .int .i64 a1_5, .int .i64 a1_6]] rfl (by (try simp only [vV, List.map_cons, List.map_nil]); first | done | rfl | (simp only [vX, vW]; rfl)) ?_; (with_reducible refine (laws_eqOp.calls a0_1 a0_2 a0_3 a0_4 a0_5 a0_6 a1_1 a1_2 a1_3 a1_4 a1_5 a1_6 false _ A4.out).mono ?_); rintro e w17 ⟨rfl, hb⟩; refine ⟨_, rfl, ?_⟩; have n0_ := Aside0.mk (uT (g := gb159) (o := .cells #[.int .i64 a0_0, .int .i64 a0_1, .int .i64 a0_2, .int .i64 a0_3, .int .i64 a0_4, .int .i64 a0_5, .int .i64 a0_6] 72 (0, 0)) (by (with_reducible repeat (first | refine uG ?_ _ | refine uI ?_ | refine uH ?_ _)); exact BK159.out) hb); have n1_ := Aside0.mk (uT (g := gb160) (o := .cells #[.int .i64 a1_0, .int .i64 a1_1, .int .i64 a1_2, .int .i64 a1_3, .int .i64 a1_4, .int .i64 a1_5, .int .i64 a1_6] 72 (0, 0)) (by (with_reducible repeat (first | refine uG ?_ _ | refine uI ?_ | refine uH ?_ _)); exact BK160.out) hb); have n2_ := Aside0.mk (uP (by repeat (first | (with_reducible first | exact HB.out | apply uC | apply uA | apply uB | refine uF ?_ GE159.out | refine uF ?_ GE160.out) | exact HB.out)) hb); clear BK159; clear BK160; clear HB; have BK159 := n0_; have BK160 := n1_; have HB := n2_; clear n0_ n1_ n2_; (try clear hb); (try clear hb2); (try clear hk); (try clear hi)))
  go_ret
  exact ⟨by first | rfl | (simp [errW_none, errW_some] <;> rfl) | (simp [*, errW_none, errW_some] <;> rfl), by repeat (first | (with_reducible first | exact HB.out | apply uC | apply uA | apply uB | refine uF ?_ GE159.out | refine uF ?_ GE160.out) | exact HB.out)⟩

/-! ### laws_eqEntryS: function 29 -/
def laws_eqEntryS.l0 : Nat → List (S72) → List (S72) → Int → Option (Bool)
  | 0, _, _, _ => none
  | k + 1, x0, x1, x5 => if x5 < (x0.length : Int) then (if 0 ≤ x5 then (if x5 < (x1.length : Int) then ((laws_eqEntry.f ((rd_T72 x0 x5).f0) ((rd_T72 x0 x5).f1.f0) ((rd_T72 x0 x5).f1.f1) ((rd_T72 x0 x5).f1.f2) ((rd_T72 x0 x5).f1.f3) ((rd_T72 x0 x5).f1.f4) ((rd_T72 x0 x5).f1.f5) ((rd_T72 x1 x5).f0) ((rd_T72 x1 x5).f1.f0) ((rd_T72 x1 x5).f1.f1) ((rd_T72 x1 x5).f1.f2) ((rd_T72 x1 x5).f1.f3) ((rd_T72 x1 x5).f1.f4) ((rd_T72 x1 x5).f1.f5)).bind fun t164 => (if t164 = true then (laws_eqEntryS.l0 k x0 x1 (wrap64 (x5 + 1))) else (some false))) else (none)) else (none)) else (some true)
def laws_eqEntryS.f (k : Nat) (l0 : List (S72)) (l1 : List (S72)) : Option (Bool) := if (l0.length : Int) = (l1.length : Int) then (laws_eqEntryS.l0 k l0 l1 0) else (some false)
theorem laws_eqEntryS.mono_l : ∀ k, (∀ y0 y1 y2, uV (laws_eqEntryS.l0 k y0 y1 y2) (laws_eqEntryS.l0 (k + 1) y0 y1 y2))
  | 0 => fun _ _ _ r h => by simp [laws_eqEntryS.l0] at h
  | k + 1 => by
    have ih0 := laws_eqEntryS.mono_l k
    intro y0 y1 y2
    unfold laws_eqEntryS.l0
    repeat' first
    | (with_reducible exact ih0 _ _ _)
    | (with_reducible exact uV.refl _)
    | (with_reducible exact uV.none _)
    | (with_reducible refine uV.ite ?_ ?_)
    | (with_reducible refine uV.bind ?_ (fun _ => ?_))
    | exact ih0 _ _ _
    | exact uV.none _
    | refine uV.ite ?_ ?_
    | refine uV.bind ?_ (fun _ => ?_)
theorem laws_eqEntryS.mono : ∀ a0 a1 k, uV (laws_eqEntryS.f k a0 a1) (laws_eqEntryS.f (k + 1) a0 a1) := by
  intro a0 a1 k
  have ih0 := laws_eqEntryS.mono_l k
  unfold laws_eqEntryS.f
  repeat' first
      | (with_reducible exact ih0 _ _ _)
      | (with_reducible exact uV.refl _)
      | (with_reducible exact uV.none _)
      | (with_reducible refine uV.ite ?_ ?_)
      | (with_reducible refine uV.bind ?_ (fun _ => ?_))
      | exact ih0 _ _ _
      | exact uV.none _
      | refine uV.ite ?_ ?_
      | refine uV.bind ?_ (fun _ => ?_)
def laws_eqEntryS.T6 : Bool × List (List Nat × List Nat) := (true, [([], []), ([], []), ([0, 1], [0, 1]), ([2], [2]), ([], []), ([], []), ([4, 5], [4, 5]), ([6], [6]), ([3, 7], [3, 7]), ([8], [8])])
def laws_eqEntryS.B6 : List Nat := [0, 0, 3, 7, 0, 0, 48, 112, 255, 511]
theorem laws_eqEntryS.tab6 : rtab .any (opsOf Try.f29 6) = laws_eqEntryS.T6 := by kernel_rfl
theorem laws_eqEntryS.bits6 : waitsOk laws_eqEntryS.T6.2 laws_eqEntryS.B6 = true := by kernel_rfl
set_option maxHeartbeats 8000000 in
set_option maxRecDepth 100000 in
theorem laws_eqEntryS.calls (k : Nat) (A0 : Option Addr) (c0 : Nat) (l0 : List (S72)) (A1 : Option Addr) (c1 : Nat) (l1 : List (S72)) (r : Bool) (w : World) (hr0 : Kd.C k72 w A0 l0.length l0) (hc0 : l0.length ≤ c0) (hr1 : Kd.C k72 w A1 l1.length l1) (hc1 : l1.length ≤ c1) (h : laws_eqEntryS.f k l0 l1 = some r) :
    Calls Try.prog 29 #[.slice A0 l0.length c0, .slice A1 l1.length c1] w fun e w' => e = .returned (.bool r) ∧ Below w.heap.size w w' := by
  have hu72 := Try.underlying72
  have HR0 := Aside0.mk hr0
  have HC0 := Aside0.mk hc0
  clear hr0 hc0
  have HR1 := Aside0.mk hr1
  have HC1 := Aside0.mk hc1
  clear hr1 hc1
  have HB := Aside0.mk (Below.refl w.heap.size w)
  have H : (if (l0.length : Int) = (l1.length : Int) then (laws_eqEntryS.l0 k l0 l1 0) else (some false)) = some r := h
  clear h
  by_cases c3 : (l0.length : Int) = (l1.length : Int)
  rotate_left
  · rw [if_neg c3] at H
    have c3b0 : ((l0.length : Int) == (l1.length : Int)) = false := beq_eq_false_iff_ne.mpr c3
    have c3b1 : ((l0.length : Int) != (l1.length : Int)) = true := bne_iff_ne.mpr c3
    have c3b2 : (l0.length == l1.length) = false := by first | simpa using c3 | (simp at c3 ⊢; omega)
    obtain rfl := Option.some.inj H
    go_enter Try.func29, Try.ntmps29
    go_wp2
    go_ret
    exact ⟨by first | rfl | (simp [errW_none, errW_some] <;> rfl) | (simp [*, errW_none, errW_some] <;> rfl), by repeat (first | (with_reducible first | exact HB.out | apply uC | apply uA | apply uB) | exact HB.out)⟩
  rw [if_pos c3] at H
  have c3b0 : ((l0.length : Int) == (l1.length : Int)) = true := beq_iff_eq.mpr c3
  have c3b1 : ((l0.length : Int) != (l1.length : Int)) = false := bne_eq_false_iff_eq.mpr c3
  have c3b2 : (l0.length == l1.length) = true := by first | simpa using c3 | (simp at c3 ⊢; omega)
  clear c3
  have H' := Aside0.mk H
  clear H
  go_enter Try.func29, Try.ntmps29
  go_wp2
  go_loopg [5] k (fun kq v5 w' => ∃ (x5_1 : Int), v5 = .int .i64 x5_1 ∧ Aside0 (laws_eqEntryS.l0 kq l0 l1 x5_1 = some r) ∧ Aside0 (kq ≤ k) ∧ Aside0 (Below w.heap.size w w'))
  case atStart => exact ⟨(0), (by first | rfl | (simp; done) | (simp [*]; done)), H', ⟨Nat.le_refl _⟩, ⟨by repeat (first | (with_reducible first | exact HB.out | apply uC | apply uA | apply uB) | exact HB.out)⟩⟩
  case round =>
    clear H'
    try clear c1
    try clear c2
    try clear p2
    try clear c3
    try clear c3b0
    try clear c3b1
    try clear c3b2
    obtain ⟨x5_1, rfl, HA, HK1, HB⟩ := hrel
    cases gk with
    | zero => exact absurd HA.out (by simp [laws_eqEntryS.l0])
    | succ k1 =>
      have H := HA.out
      clear HA
      simp only [laws_eqEntryS.l0] at H
      by_cases c4 : x5_1 < (l0.length : Int)
      rotate_left
      · rw [if_neg c4] at H
        have c4b0 : decide (x5_1 < (l0.length : Int)) = false := decide_eq_false c4
        clear c4
        obtain rfl := Option.some.inj H
        go_wp2
        go_ret
        exact ⟨by first | rfl | (simp [errW_none, errW_some] <;> rfl) | (simp [*, errW_none, errW_some] <;> rfl), by repeat (first | (with_reducible first | exact HB.out | apply uC | apply uA | apply uB) | exact HB.out)⟩
      rw [if_pos c4] at H
      have c4b0 : decide (x5_1 < (l0.length : Int)) = true := decide_eq_true c4
      clear c4
      by_cases c5 : 0 ≤ x5_1
      rotate_left
      · rw [if_neg c5] at H
        exact absurd H (by simp)
      rw [if_pos c5] at H
      have c5b0 : decide (0 ≤ x5_1) = true := decide_eq_true c5
      clear c5
      by_cases c6 : x5_1 < (l1.length : Int)
      rotate_left
      · rw [if_neg c6] at H
        exact absurd H (by simp)
      rw [if_pos c6] at H
      have c6b0 : decide (x5_1 < (l1.length : Int)) = true := decide_eq_true c6
      clear c6
      replace H := Option.bind_eq_some_iff.mp H
      obtain ⟨t164, A70, H⟩ := H
      replace H : (if t164 = true then (laws_eqEntryS.l0 k1 l0 l1 (wrap64 (x5_1 + 1))) else (some false)) = some r := H
      have A7 := Aside0.mk A70
      clear A70
      by_cases c8 : t164 = true
      rotate_left
      · replace c8 := Bool.eq_false_iff.mpr c8
        subst c8
        have H1 : (some false) = some r := by first | (rw [if_neg (show ¬ (false = true) by decide)] at H; exact H) | rfl
        clear H
        have H := H1
        clear H1
        obtain rfl := Option.some.inj H
        try go_wp2
        have n0_ := Aside0.mk (uB HB.out)
        clear HB
        have HB := n0_
        clear n0_
        have p162 : 0 ≤ (x5_1 : Int) := of_decide_eq_true (by first | (with_reducible assumption) | assumption)
        have q162 : x5_1 < (l0.length : Int) := of_decide_eq_true (by first | (with_reducible assumption) | assumption)
        obtain ⟨ad162, e162, hx162_0, hx162_1, hx162_2, hx162_3, hx162_4, hx162_5, hx162_6⟩ := at_T72 HR0.out x5_1 p162 q162
        have hw162_6 := hx162_6
        have hw162_5 := hx162_5
        have hw162_4 := hx162_4
        have hw162_3 := hx162_3
        have hw162_2 := hx162_2
        have hw162_1 := hx162_1
        have hw162_0 := hx162_0
        cases e162
        replace hx162_0 := (HB.out.cell (vY w _ hx162_0)).trans hx162_0
        replace hx162_1 := (HB.out.cell (vY w _ hx162_1)).trans hx162_1
        replace hx162_2 := (HB.out.cell (vY w _ hx162_2)).trans hx162_2
        replace hx162_3 := (HB.out.cell (vY w _ hx162_3)).trans hx162_3
        replace hx162_4 := (HB.out.cell (vY w _ hx162_4)).trans hx162_4
        replace hx162_5 := (HB.out.cell (vY w _ hx162_5)).trans hx162_5
        replace hx162_6 := (HB.out.cell (vY w _ hx162_6)).trans hx162_6
        replace p162 := eq_true p162
        replace q162 := eq_true q162
        have p163 : 0 ≤ (x5_1 : Int) := of_decide_eq_true (by first | (with_reducible assumption) | assumption)
        have q163 : x5_1 < (l1.length : Int) := of_decide_eq_true (by first | (with_reducible assumption) | assumption)
        obtain ⟨ad163, e163, hx163_0, hx163_1, hx163_2, hx163_3, hx163_4, hx163_5, hx163_6⟩ := at_T72 HR1.out x5_1 p163 q163
        have hw163_6 := hx163_6
        have hw163_5 := hx163_5
        have hw163_4 := hx163_4
        have hw163_3 := hx163_3
        have hw163_2 := hx163_2
        have hw163_1 := hx163_1
        have hw163_0 := hx163_0
        cases e163
        replace hx163_0 := (HB.out.cell (vY w _ hx163_0)).trans hx163_0
        replace hx163_1 := (HB.out.cell (vY w _ hx163_1)).trans hx163_1
        replace hx163_2 := (HB.out.cell (vY w _ hx163_2)).trans hx163_2
        replace hx163_3 := (HB.out.cell (vY w _ hx163_3)).trans hx163_3
        replace hx163_4 := (HB.out.cell (vY w _ hx163_4)).trans hx163_4
        replace hx163_5 := (HB.out.cell (vY w _ hx163_5)).trans hx163_5
        replace hx163_6 := (HB.out.cell (vY w _ hx163_6)).trans hx163_6
        replace p163 := eq_true p163
        replace q163 := eq_true q163
        refine start_ (n := 10) (S := fun w' => w'.cell? (ad162.add ((x5_1).toNat * 7)) = some (.int .i64 ((rd_T72 l0 x5_1).f0)) ∧ w'.cell? ⟨(ad162.add ((x5_1).toNat * 7)).block, (ad162.add ((x5_1).toNat * 7)).off + 1, none⟩ = some (.int .i64 ((rd_T72 l0 x5_1).f1.f0)) ∧ w'.cell? ⟨(ad162.add ((x5_1).toNat * 7)).block, (ad162.add ((x5_1).toNat * 7)).off + 2, none⟩ = some (.int .i64 ((rd_T72 l0 x5_1).f1.f1)) ∧ w'.cell? ⟨(ad162.add ((x5_1).toNat * 7)).block, (ad162.add ((x5_1).toNat * 7)).off + 3, none⟩ = some (.int .i64 ((rd_T72 l0 x5_1).f1.f2)) ∧ w'.cell? ⟨(ad162.add ((x5_1).toNat * 7)).block, (ad162.add ((x5_1).toNat * 7)).off + 4, none⟩ = some (.int .i64 ((rd_T72 l0 x5_1).f1.f3)) ∧ w'.cell? ⟨(ad162.add ((x5_1).toNat * 7)).block, (ad162.add ((x5_1).toNat * 7)).off + 5, none⟩ = some (.int .i64 ((rd_T72 l0 x5_1).f1.f4)) ∧ w'.cell? ⟨(ad162.add ((x5_1).toNat * 7)).block, (ad162.add ((x5_1).toNat * 7)).off + 6, none⟩ = some (.int .i64 ((rd_T72 l0 x5_1).f1.f5)) ∧ w'.cell? (ad163.add ((x5_1).toNat * 7)) = some (.int .i64 ((rd_T72 l1 x5_1).f0)) ∧ w'.cell? ⟨(ad163.add ((x5_1).toNat * 7)).block, (ad163.add ((x5_1).toNat * 7)).off + 1, none⟩ = some (.int .i64 ((rd_T72 l1 x5_1).f1.f0)) ∧ w'.cell? ⟨(ad163.add ((x5_1).toNat * 7)).block, (ad163.add ((x5_1).toNat * 7)).off + 2, none⟩ = some (.int .i64 ((rd_T72 l1 x5_1).f1.f1)) ∧ w'.cell? ⟨(ad163.add ((x5_1).toNat * 7)).block, (ad163.add ((x5_1).toNat * 7)).off + 3, none⟩ = some (.int .i64 ((rd_T72 l1 x5_1).f1.f2)) ∧ w'.cell? ⟨(ad163.add ((x5_1).toNat * 7)).block, (ad163.add ((x5_1).toNat * 7)).off + 4, none⟩ = some (.int .i64 ((rd_T72 l1 x5_1).f1.f3)) ∧ w'.cell? ⟨(ad163.add ((x5_1).toNat * 7)).block, (ad163.add ((x5_1).toNat * 7)).off + 5, none⟩ = some (.int .i64 ((rd_T72 l1 x5_1).f1.f4)) ∧ w'.cell? ⟨(ad163.add ((x5_1).toNat * 7)).block, (ad163.add ((x5_1).toNat * 7)).off + 6, none⟩ = some (.int .i64 ((rd_T72 l1 x5_1).f1.f5))) (ds := []) tb3 (by kernel_rfl) rfl rfl ⟨((HB.out.cell (vY w _ hw162_0)).trans hw162_0), ((HB.out.cell (vY w _ hw162_1)).trans hw162_1), ((HB.out.cell (vY w _ hw162_2)).trans hw162_2), ((HB.out.cell (vY w _ hw162_3)).trans hw162_3), ((HB.out.cell (vY w _ hw162_4)).trans hw162_4), ((HB.out.cell (vY w _ hw162_5)).trans hw162_5), ((HB.out.cell (vY w _ hw162_6)).trans hw162_6), ((HB.out.cell (vY w _ hw163_0)).trans hw163_0), ((HB.out.cell (vY w _ hw163_1)).trans hw163_1), ((HB.out.cell (vY w _ hw163_2)).trans hw163_2), ((HB.out.cell (vY w _ hw163_3)).trans hw163_3), ((HB.out.cell (vY w _ hw163_4)).trans hw163_4), ((HB.out.cell (vY w _ hw163_5)).trans hw163_5), ((HB.out.cell (vY w _ hw163_6)).trans hw163_6)⟩ (fun hHeld => ?_); refine with_tabW laws_eqEntryS.tab6 laws_eqEntryS.bits6 (fun HT_ HW_ => ?_)
        generalize wr.drew = w11 at HB hx162_0 hx162_1 hx162_2 hx162_3 hx162_4 hx162_5 hx162_6 hx163_0 hx163_1 hx163_2 hx163_3 hx163_4 hx163_5 hx163_6 hHeld ⊢
        refine uJ (i := 0) (N := some 17) (v := ?_) (a' := ?_) tb7 rfl rfl (vP HT_.out (by kernel_rfl)) (fun _ _ _ h => h) (Or.inl ⟨by rfl, ?_⟩) ?_ ?_
        rotate_left
        · intro w'
          go_simp
          with_reducible rfl
        rotate_left
        · simp only [Act.put, vS, vT, vU, uL, uM]
          rfl
        refine uJ (i := 1) (N := some 18) (v := ?_) (a' := ?_) tb8 rfl rfl (vP HT_.out (by kernel_rfl)) (fun _ _ _ h => h) (Or.inl ⟨by rfl, ?_⟩) ?_ ?_
        rotate_left
        · intro w'
          go_simp
          with_reducible rfl
        rotate_left
        · simp only [Act.put, vS, vT, vU, uL, uM]
          rfl
        refine uJ (i := 2) (N := some 19) (v := ?_) (a' := ?_) tb9 rfl rfl (vP HT_.out (by kernel_rfl)) (fun _ _ _ h => h) (Or.inl ⟨by rfl, ?_⟩) ?_ ?_
        rotate_left
        · intro w'
          go_simp
          with_reducible rfl
        rotate_left
        · simp only [Act.put, vS, vT, vU, uL, uM]
          rfl
        refine uJ (i := 4) (N := some 21) (v := ?_) (a' := ?_) tb10 rfl rfl (vP HT_.out (by kernel_rfl)) (fun _ _ _ h => h) (Or.inl ⟨by rfl, ?_⟩) ?_ ?_
        rotate_left
        · intro w'
          go_simp
          with_reducible rfl
        rotate_left
        · simp only [Act.put, vS, vT, vU, uL, uM]
          rfl
        refine uJ (i := 5) (N := some 22) (v := ?_) (a' := ?_) tb11 rfl rfl (vP HT_.out (by kernel_rfl)) (fun _ _ _ h => h) (Or.inl ⟨by rfl, ?_⟩) ?_ ?_
        rotate_left
        · intro w'
          go_simp
          with_reducible rfl
        rotate_left
        · simp only [Act.put, vS, vT, vU, uL, uM]
          rfl
        refine uJ (i := 6) (N := some 23) (v := ?_) (a' := ?_) tb2 rfl rfl (vP HT_.out (by kernel_rfl)) (fun _ _ _ h => h) (Or.inl ⟨by rfl, ?_⟩) ?_ ?_
        rotate_left
        · intro w'
          go_simp
          with_reducible rfl
        rotate_left
        · simp only [Act.put, vS, vT, vU, uL, uM]
          rfl
        refine take_ (i := 3) (N := some 20) (v := ?_) (a' := ?_) tb0 rfl rfl (take_ofW HT_.out HW_.out (by kernel_rfl)) (fun _ _ _ h => h) (Or.inl ⟨by rfl, ?_⟩) hHeld ?_ ?_
        rotate_left
        · rintro w' ⟨s0, s1, s2, s3, s4, s5, s6, s7, s8, s9, s10, s11, s12, s13⟩
          go_simp
          with_reducible rfl
        rotate_left
        · simp only [Act.put, vS, vT, vU, uL, uM]
          rfl
        refine take_ (i := 7) (N := some 24) (v := ?_) (a' := ?_) tb4 rfl rfl (take_ofW HT_.out HW_.out (by kernel_rfl)) (fun _ _ _ h => h) (Or.inl ⟨by rfl, ?_⟩) hHeld ?_ ?_
        rotate_left
        · rintro w' ⟨s0, s1, s2, s3, s4, s5, s6, s7, s8, s9, s10, s11, s12, s13⟩
          go_simp
          with_reducible rfl
        rotate_left
        · simp only [Act.put, vS, vT, vU, uL, uM]
          rfl
        refine one_ (i := 8) (N := some 25) tb5 rfl rfl (one_of HT_.out (by kernel_rfl)) (by decide) (fun K hK => ?_)
        refine goes_ Try.func69 (by kernel_rfl) rfl #[.agg #[.int .i64 ((rd_T72 l0 x5_1).f0), .int .i64 ((rd_T72 l0 x5_1).f1.f0), .int .i64 ((rd_T72 l0 x5_1).f1.f1), .int .i64 ((rd_T72 l0 x5_1).f1.f2), .int .i64 ((rd_T72 l0 x5_1).f1.f3), .int .i64 ((rd_T72 l0 x5_1).f1.f4), .int .i64 ((rd_T72 l0 x5_1).f1.f5)], .agg #[.int .i64 ((rd_T72 l1 x5_1).f0), .int .i64 ((rd_T72 l1 x5_1).f1.f0), .int .i64 ((rd_T72 l1 x5_1).f1.f1), .int .i64 ((rd_T72 l1 x5_1).f1.f2), .int .i64 ((rd_T72 l1 x5_1).f1.f3), .int .i64 ((rd_T72 l1 x5_1).f1.f4), .int .i64 ((rd_T72 l1 x5_1).f1.f5)]] (by rfl) rfl rfl (by (try simp only [vV, List.map_cons, List.map_nil]); first | done | rfl | (simp only [vX, vW]; rfl)) ?_
        with_reducible refine (laws_eqEntry.calls ((rd_T72 l0 x5_1).f0) ((rd_T72 l0 x5_1).f1.f0) ((rd_T72 l0 x5_1).f1.f1) ((rd_T72 l0 x5_1).f1.f2) ((rd_T72 l0 x5_1).f1.f3) ((rd_T72 l0 x5_1).f1.f4) ((rd_T72 l0 x5_1).f1.f5) ((rd_T72 l1 x5_1).f0) ((rd_T72 l1 x5_1).f1.f0) ((rd_T72 l1 x5_1).f1.f1) ((rd_T72 l1 x5_1).f1.f2) ((rd_T72 l1 x5_1).f1.f3) ((rd_T72 l1 x5_1).f1.f4) ((rd_T72 l1 x5_1).f1.f5) false _ A7.out).mono ?_
        rintro e w12 ⟨rfl, hb⟩
        refine ⟨_, rfl, ?_⟩
        have n0_ := Aside0.mk (uP (by repeat (first | (with_reducible first | exact HB.out | apply uC | apply uA | apply uB) | exact HB.out)) hb)
        clear HB
        have HB := n0_
        clear n0_
        (try clear hb)
        (try clear hb2)
        (try clear hk)
        (try clear hi)
        refine hK.out _ _ ⟨((HB.out.cell (vY w _ hw162_0)).trans hw162_0), ((HB.out.cell (vY w _ hw162_1)).trans hw162_1), ((HB.out.cell (vY w _ hw162_2)).trans hw162_2), ((HB.out.cell (vY w _ hw162_3)).trans hw162_3), ((HB.out.cell (vY w _ hw162_4)).trans hw162_4), ((HB.out.cell (vY w _ hw162_5)).trans hw162_5), ((HB.out.cell (vY w _ hw162_6)).trans hw162_6), ((HB.out.cell (vY w _ hw163_0)).trans hw163_0), ((HB.out.cell (vY w _ hw163_1)).trans hw163_1), ((HB.out.cell (vY w _ hw163_2)).trans hw163_2), ((HB.out.cell (vY w _ hw163_3)).trans hw163_3), ((HB.out.cell (vY w _ hw163_4)).trans hw163_4), ((HB.out.cell (vY w _ hw163_5)).trans hw163_5), ((HB.out.cell (vY w _ hw163_6)).trans hw163_6)⟩ (fun hHeld => ?_)
        clear hK K
        refine vO (a' := ?_) ?_ ?_
        rotate_left
        · show Act.put _ (some 25) _ = _
          simp only [Act.put, vS, vT, vU, uL, uM]
          rfl
        refine uJ (i := 9) (N := some 26) (v := ?_) (a' := ?_) tb6 rfl rfl (vP HT_.out (by kernel_rfl)) (fun _ _ _ h => h) (Or.inl ⟨by rfl, ?_⟩) ?_ ?_
        rotate_left
        · intro w'
          go_simp
          with_reducible rfl
        rotate_left
        · simp only [Act.put, vS, vT, vU, uL, uM]
          rfl
        refine done_ (done_of HT_.out (by kernel_rfl)) ?_
        try go_wp2
        go_ret
        exact ⟨by first | rfl | (simp [errW_none, errW_some] <;> rfl) | (simp [*, errW_none, errW_some] <;> rfl), by repeat (first | (with_reducible first | exact HB.out | apply uC | apply uA | apply uB) | exact HB.out)⟩
      subst c8
      have H1 : (laws_eqEntryS.l0 k1 l0 l1 (wrap64 (x5_1 + 1))) = some r := by first | (rw [if_pos rfl] at H; exact H) | rfl
      clear H
      have H := H1
      clear H1
      have H' := Aside0.mk H
      clear H
      try go_wp2
      have n0_ := Aside0.mk (uB HB.out)
      clear HB
      have HB := n0_
      clear n0_
      have p162 : 0 ≤ (x5_1 : Int) := of_decide_eq_true (by first | (with_reducible assumption) | assumption)
      have q162 : x5_1 < (l0.length : Int) := of_decide_eq_true (by first | (with_reducible assumption) | assumption)
      obtain ⟨ad162, e162, hx162_0, hx162_1, hx162_2, hx162_3, hx162_4, hx162_5, hx162_6⟩ := at_T72 HR0.out x5_1 p162 q162
      have hw162_6 := hx162_6
      have hw162_5 := hx162_5
      have hw162_4 := hx162_4
      have hw162_3 := hx162_3
      have hw162_2 := hx162_2
      have hw162_1 := hx162_1
      have hw162_0 := hx162_0
      cases e162
      replace hx162_0 := (HB.out.cell (vY w _ hx162_0)).trans hx162_0
      replace hx162_1 := (HB.out.cell (vY w _ hx162_1)).trans hx162_1
      replace hx162_2 := (HB.out.cell (vY w _ hx162_2)).trans hx162_2
      replace hx162_3 := (HB.out.cell (vY w _ hx162_3)).trans hx162_3
      replace hx162_4 := (HB.out.cell (vY w _ hx162_4)).trans hx162_4
      replace hx162_5 := (HB.out.cell (vY w _ hx162_5)).trans hx162_5
      replace hx162_6 := (HB.out.cell (vY w _ hx162_6)).trans hx162_6
      replace p162 := eq_true p162
      replace q162 := eq_true q162
      have p163 : 0 ≤ (x5_1 : Int) := of_decide_eq_true (by first | (with_reducible assumption) | assumption)
      have q163 : x5_1 < (l1.length : Int) := of_decide_eq_true (by first | (with_reducible assumption) | assumption)
      obtain ⟨ad163, e163, hx163_0, hx163_1, hx163_2, hx163_3, hx163_4, hx163_5, hx163_6⟩ := at_T72 HR1.out x5_1 p163 q163
      have hw163_6 := hx163_6
      have hw163_5 := hx163_5
      have hw163_4 := hx163_4
      have hw163_3 := hx163_3
      have hw163_2 := hx163_2
      have hw163_1 := hx163_1
      have hw163_0 := hx163_0
      cases e163
      replace hx163_0 := (HB.out.cell (vY w _ hx163_0)).trans hx163_0
      replace hx163_1 := (HB.out.cell (vY w _ hx163_1)).trans hx163_1
      replace hx163_2 := (HB.out.cell (vY w _ hx163_2)).trans hx163_2
      replace hx163_3 := (HB.out.cell (vY w _ hx163_3)).trans hx163_3
      replace hx163_4 := (HB.out.cell (vY w _ hx163_4)).trans hx163_4
      replace hx163_5 := (HB.out.cell (vY w _ hx163_5)).trans hx163_5
      replace hx163_6 := (HB.out.cell (vY w _ hx163_6)).trans hx163_6
      replace p163 := eq_true p163
      replace q163 := eq_true q163
      refine start_ (n := 10) (S := fun w' => w'.cell? (ad162.add ((x5_1).toNat * 7)) = some (.int .i64 ((rd_T72 l0 x5_1).f0)) ∧ w'.cell? ⟨(ad162.add ((x5_1).toNat * 7)).block, (ad162.add ((x5_1).toNat * 7)).off + 1, none⟩ = some (.int .i64 ((rd_T72 l0 x5_1).f1.f0)) ∧ w'.cell? ⟨(ad162.add ((x5_1).toNat * 7)).block, (ad162.add ((x5_1).toNat * 7)).off + 2, none⟩ = some (.int .i64 ((rd_T72 l0 x5_1).f1.f1)) ∧ w'.cell? ⟨(ad162.add ((x5_1).toNat * 7)).block, (ad162.add ((x5_1).toNat * 7)).off + 3, none⟩ = some (.int .i64 ((rd_T72 l0 x5_1).f1.f2)) ∧ w'.cell? ⟨(ad162.add ((x5_1).toNat * 7)).block, (ad162.add ((x5_1).toNat * 7)).off + 4, none⟩ = some (.int .i64 ((rd_T72 l0 x5_1).f1.f3)) ∧ w'.cell? ⟨(ad162.add ((x5_1).toNat * 7)).block, (ad162.add ((x5_1).toNat * 7)).off + 5, none⟩ = some (.int .i64 ((rd_T72 l0 x5_1).f1.f4)) ∧ w'.cell? ⟨(ad162.add ((x5_1).toNat * 7)).block, (ad162.add ((x5_1).toNat * 7)).off + 6, none⟩ = some (.int .i64 ((rd_T72 l0 x5_1).f1.f5)) ∧ w'.cell? (ad163.add ((x5_1).toNat * 7)) = some (.int .i64 ((rd_T72 l1 x5_1).f0)) ∧ w'.cell? ⟨(ad163.add ((x5_1).toNat * 7)).block, (ad163.add ((x5_1).toNat * 7)).off + 1, none⟩ = some (.int .i64 ((rd_T72 l1 x5_1).f1.f0)) ∧ w'.cell? ⟨(ad163.add ((x5_1).toNat * 7)).block, (ad163.add ((x5_1).toNat * 7)).off + 2, none⟩ = some (.int .i64 ((rd_T72 l1 x5_1).f1.f1)) ∧ w'.cell? ⟨(ad163.add ((x5_1).toNat * 7)).block, (ad163.add ((x5_1).toNat * 7)).off + 3, none⟩ = some (.int .i64 ((rd_T72 l1 x5_1).f1.f2)) ∧ w'.cell? ⟨(ad163.add ((x5_1).toNat * 7)).block, (ad163.add ((x5_1).toNat * 7)).off + 4, none⟩ = some (.int .i64 ((rd_T72 l1 x5_1).f1.f3)) ∧ w'.cell? ⟨(ad163.add ((x5_1).toNat * 7)).block, (ad163.add ((x5_1).toNat * 7)).off + 5, none⟩ = some (.int .i64 ((rd_T72 l1 x5_1).f1.f4)) ∧ w'.cell? ⟨(ad163.add ((x5_1).toNat * 7)).block, (ad163.add ((x5_1).toNat * 7)).off + 6, none⟩ = some (.int .i64 ((rd_T72 l1 x5_1).f1.f5))) (ds := []) tb3 (by kernel_rfl) rfl rfl ⟨((HB.out.cell (vY w _ hw162_0)).trans hw162_0), ((HB.out.cell (vY w _ hw162_1)).trans hw162_1), ((HB.out.cell (vY w _ hw162_2)).trans hw162_2), ((HB.out.cell (vY w _ hw162_3)).trans hw162_3), ((HB.out.cell (vY w _ hw162_4)).trans hw162_4), ((HB.out.cell (vY w _ hw162_5)).trans hw162_5), ((HB.out.cell (vY w _ hw162_6)).trans hw162_6), ((HB.out.cell (vY w _ hw163_0)).trans hw163_0), ((HB.out.cell (vY w _ hw163_1)).trans hw163_1), ((HB.out.cell (vY w _ hw163_2)).trans hw163_2), ((HB.out.cell (vY w _ hw163_3)).trans hw163_3), ((HB.out.cell (vY w _ hw163_4)).trans hw163_4), ((HB.out.cell (vY w _ hw163_5)).trans hw163_5), ((HB.out.cell (vY w _ hw163_6)).trans hw163_6)⟩ (fun hHeld => ?_); refine with_tabW laws_eqEntryS.tab6 laws_eqEntryS.bits6 (fun HT_ HW_ => ?_)
      generalize wr.drew = w9 at HB hx162_0 hx162_1 hx162_2 hx162_3 hx162_4 hx162_5 hx162_6 hx163_0 hx163_1 hx163_2 hx163_3 hx163_4 hx163_5 hx163_6 hHeld ⊢
      refine uJ (i := 0) (N := some 17) (v := ?_) (a' := ?_) tb7 rfl rfl (vP HT_.out (by kernel_rfl)) (fun _ _ _ h => h) (Or.inl ⟨by rfl, ?_⟩) ?_ ?_
      rotate_left
      · intro w'
        go_simp
        with_reducible rfl
      rotate_left
      · simp only [Act.put, vS, vT, vU, uL, uM]
        rfl
      refine uJ (i := 1) (N := some 18) (v := ?_) (a' := ?_) tb8 rfl rfl (vP HT_.out (by kernel_rfl)) (fun _ _ _ h => h) (Or.inl ⟨by rfl, ?_⟩) ?_ ?_
      rotate_left
      · intro w'
        go_simp
        with_reducible rfl
      rotate_left
      · simp only [Act.put, vS, vT, vU, uL, uM]
        rfl
      refine uJ (i := 2) (N := some 19) (v := ?_) (a' := ?_) tb9 rfl rfl (vP HT_.out (by kernel_rfl)) (fun _ _ _ h => h) (Or.inl ⟨by rfl, ?_⟩) ?_ ?_
      rotate_left
      · intro w'
        go_simp
        with_reducible rfl
      rotate_left
      · simp only [Act.put, vS, vT, vU, uL, uM]
        rfl
      refine uJ (i := 4) (N := some 21) (v := ?_) (a' := ?_) tb10 rfl rfl (vP HT_.out (by kernel_rfl)) (fun _ _ _ h => h) (Or.inl ⟨by rfl, ?_⟩) ?_ ?_
      rotate_left
      · intro w'
        go_simp
        with_reducible rfl
      rotate_left
      · simp only [Act.put, vS, vT, vU, uL, uM]
        rfl
      refine uJ (i := 5) (N := some 22) (v := ?_) (a' := ?_) tb11 rfl rfl (vP HT_.out (by kernel_rfl)) (fun _ _ _ h => h) (Or.inl ⟨by rfl, ?_⟩) ?_ ?_
      rotate_left
      · intro w'
        go_simp
        with_reducible rfl
      rotate_left
      · simp only [Act.put, vS, vT, vU, uL, uM]
        rfl
      refine uJ (i := 6) (N := some 23) (v := ?_) (a' := ?_) tb2 rfl rfl (vP HT_.out (by kernel_rfl)) (fun _ _ _ h => h) (Or.inl ⟨by rfl, ?_⟩) ?_ ?_
      rotate_left
      · intro w'
        go_simp
        with_reducible rfl
      rotate_left
      · simp only [Act.put, vS, vT, vU, uL, uM]
        rfl
      refine take_ (i := 3) (N := some 20) (v := ?_) (a' := ?_) tb0 rfl rfl (take_ofW HT_.out HW_.out (by kernel_rfl)) (fun _ _ _ h => h) (Or.inl ⟨by rfl, ?_⟩) hHeld ?_ ?_
      rotate_left
      · rintro w' ⟨s0, s1, s2, s3, s4, s5, s6, s7, s8, s9, s10, s11, s12, s13⟩
        go_simp
        with_reducible rfl
      rotate_left
      · simp only [Act.put, vS, vT, vU, uL, uM]
        rfl
      refine take_ (i := 7) (N := some 24) (v := ?_) (a' := ?_) tb4 rfl rfl (take_ofW HT_.out HW_.out (by kernel_rfl)) (fun _ _ _ h => h) (Or.inl ⟨by rfl, ?_⟩) hHeld ?_ ?_
      rotate_left
      · rintro w' ⟨s0, s1, s2, s3, s4, s5, s6, s7, s8, s9, s10, s11, s12, s13⟩
        go_simp
        with_reducible rfl
      rotate_left
      · simp only [Act.put, vS, vT, vU, uL, uM]
        rfl
      refine one_ (i := 8) (N := some 25) tb5 rfl rfl (one_of HT_.out (by kernel_rfl)) (by decide) (fun K hK => ?_)
      refine goes_ Try.func69 (by kernel_rfl) rfl #[.agg #[.int .i64 ((rd_T72 l0 x5_1).f0), .int .i64 ((rd_T72 l0 x5_1).f1.f0), .int .i64 ((rd_T72 l0 x5_1).f1.f1), .int .i64 ((rd_T72 l0 x5_1).f1.f2), .int .i64 ((rd_T72 l0 x5_1).f1.f3), .int .i64 ((rd_T72 l0 x5_1).f1.f4), .int .i64 ((rd_T72 l0 x5_1).f1.f5)], .agg #[.int .i64 ((rd_T72 l1 x5_1).f0), .int .i64 ((rd_T72 l1 x5_1).f1.f0), .int .i64 ((rd_T72 l1 x5_1).f1.f1), .int .i64 ((rd_T72 l1 x5_1).f1.f2), .int .i64 ((rd_T72 l1 x5_1).f1.f3), .int .i64 ((rd_T72 l1 x5_1).f1.f4), .int .i64 ((rd_T72 l1 x5_1).f1.f5)]] (by rfl) rfl rfl (by (try simp only [vV, List.map_cons, List.map_nil]); first | done | rfl | (simp only [vX, vW]; rfl)) ?_
      with_reducible refine (laws_eqEntry.calls ((rd_T72 l0 x5_1).f0) ((rd_T72 l0 x5_1).f1.f0) ((rd_T72 l0 x5_1).f1.f1) ((rd_T72 l0 x5_1).f1.f2) ((rd_T72 l0 x5_1).f1.f3) ((rd_T72 l0 x5_1).f1.f4) ((rd_T72 l0 x5_1).f1.f5) ((rd_T72 l1 x5_1).f0) ((rd_T72 l1 x5_1).f1.f0) ((rd_T72 l1 x5_1).f1.f1) ((rd_T72 l1 x5_1).f1.f2) ((rd_T72 l1 x5_1).f1.f3) ((rd_T72 l1 x5_1).f1.f4) ((rd_T72 l1 x5_1).f1.f5) true _ A7.out).mono ?_
      rintro e w10 ⟨rfl, hb⟩
      refine ⟨_, rfl, ?_⟩
      have n0_ := Aside0.mk (uP (by repeat (first | (with_reducible first | exact HB.out | apply uC | apply uA | apply uB) | exact HB.out)) hb)
      clear HB
      have HB := n0_
      clear n0_
      (try clear hb)
      (try clear hb2)
      (try clear hk)
      (try clear hi)
      refine hK.out _ _ ⟨((HB.out.cell (vY w _ hw162_0)).trans hw162_0), ((HB.out.cell (vY w _ hw162_1)).trans hw162_1), ((HB.out.cell (vY w _ hw162_2)).trans hw162_2), ((HB.out.cell (vY w _ hw162_3)).trans hw162_3), ((HB.out.cell (vY w _ hw162_4)).trans hw162_4), ((HB.out.cell (vY w _ hw162_5)).trans hw162_5), ((HB.out.cell (vY w _ hw162_6)).trans hw162_6), ((HB.out.cell (vY w _ hw163_0)).trans hw163_0), ((HB.out.cell (vY w _ hw163_1)).trans hw163_1), ((HB.out.cell (vY w _ hw163_2)).trans hw163_2), ((HB.out.cell (vY w _ hw163_3)).trans hw163_3), ((HB.out.cell (vY w _ hw163_4)).trans hw163_4), ((HB.out.cell (vY w _ hw163_5)).trans hw163_5), ((HB.out.cell (vY w _ hw163_6)).trans hw163_6)⟩ (fun hHeld => ?_)
      clear hK K
      refine vO (a' := ?_) ?_ ?_
      rotate_left
      · show Act.put _ (some 25) _ = _
        simp only [Act.put, vS, vT, vU, uL, uM]
        rfl
      refine uJ (i := 9) (N := some 26) (v := ?_) (a' := ?_) tb6 rfl rfl (vP HT_.out (by kernel_rfl)) (fun _ _ _ h => h) (Or.inl ⟨by rfl, ?_⟩) ?_ ?_
      rotate_left
      · intro w'
        go_simp
        with_reducible rfl
      rotate_left
      · simp only [Act.put, vS, vT, vU, uL, uM]
        rfl
      refine done_ (done_of HT_.out (by kernel_rfl)) ?_
      try go_wp2
      go_roundg k1
      case measure => have := HK1.out; omega
      case rel => exact ⟨(wrap64 (x5_1 + 1)), (by first | rfl | (simp; done) | (simp [*]; done)), H', ⟨by have := HK1.out; omega⟩, ⟨by repeat (first | (with_reducible first | exact HB.out | apply uC | apply uA | apply uB) | exact HB.out)⟩⟩

/-! ### spec_l4Copy: function 44 -/
def spec_l4Copy.f (l0_0 : List Int) (l0_1 : List (S49)) : Option (List Int × (List (S49))) := (some (([] : List Int) : List Int)).bind fun y167 => (if y167.length + l0_0.length < 17592186044416 then ((some (([] : List (S49)) : List (S49))).bind fun y173 => (if y173.length + l0_1.length < 4398046511104 then (some ((y167 ++ l0_0), (y173 ++ l0_1))) else (none))) else (none))
def spec_l4Copy.T1 : Bool × List (List Nat × List Nat) := (true, [([], []), ([], []), ([1], [1]), ([0, 2], [0, 2]), ([], []), ([], []), ([5], [5]), ([4, 6, 3], [4, 6]), ([3, 7], [3, 7]), ([8, 7, 0, 1, 2, 3, 4, 5, 6, 7, 8], [8])])
def spec_l4Copy.B1 : List Nat := [0, 0, 2, 7, 0, 0, 32, 127, 255, 511]
theorem spec_l4Copy.tab1 : rtab .any (opsOf Try.f44 1) = spec_l4Copy.T1 := by kernel_rfl
theorem spec_l4Copy.bits1 : waitsOk spec_l4Copy.T1.2 spec_l4Copy.B1 = true := by kernel_rfl
set_option maxHeartbeats 8000000 in
set_option maxRecDepth 100000 in
theorem spec_l4Copy.calls (A0_0 : Option Addr) (c0_0 : Nat) (l0_0 : List Int) (A0_1 : Option Addr) (c0_1 : Nat) (l0_1 : List (S49)) (r1 : List Int) (r2 : List (S49)) (w : World) (hr0_0 : Kd.C (Kd.int .i64) w A0_0 l0_0.length l0_0) (hc0_0 : l0_0.length ≤ c0_0) (hr0_1 : Kd.C k49 w A0_1 l0_1.length l0_1) (hc0_1 : l0_1.length ≤ c0_1) (h : spec_l4Copy.f l0_0 l0_1 = some (r1, r2)) :
    Calls Try.prog 44 #[.agg #[.slice A0_0 l0_0.length c0_0, .slice A0_1 l0_1.length c0_1]] w fun e w' => ∃ v0_ v1_ : Value, e = .returned (.agg #[v0_, v1_]) ∧ Kd.R (Kd.int .i64) 3 w' w.heap.size (fun _ => True) v0_ r1 ∧ Kd.R k49 49 w' w.heap.size (fun _ => True) v1_ r2 ∧ Below w.heap.size w w' := by
  have hu31 := Try.underlying31
  have HR0_0 := Aside0.mk hr0_0
  have HC0_0 := Aside0.mk hc0_0
  clear hr0_0 hc0_0
  have HR0_1 := Aside0.mk hr0_1
  have HC0_1 := Aside0.mk hc0_1
  clear hr0_1 hc0_1
  have HB := Aside0.mk (Below.refl w.heap.size w)
  have H : ((some (([] : List Int) : List Int)).bind fun y167 => (if y167.length + l0_0.length < 17592186044416 then ((some (([] : List (S49)) : List (S49))).bind fun y173 => (if y173.length + l0_1.length < 4398046511104 then (some ((y167 ++ l0_0), (y173 ++ l0_1))) else (none))) else (none))) = some (r1, r2) := h
  clear h
  obtain ⟨y167, hy167⟩ : ∃ y_ : List Int, y_ = (([] : List Int)) := ⟨_, rfl⟩
  replace H : (if y167.length + l0_0.length < 17592186044416 then ((some (([] : List (S49)) : List (S49))).bind fun y173 => (if y173.length + l0_1.length < 4398046511104 then (some ((y167 ++ l0_0), (y173 ++ l0_1))) else (none))) else (none)) = some (r1, r2) := by first | (rw [hy167]; with_reducible exact H) | (have H2_ := (Option.bind_some _ _).symm.trans H; rw [hy167]; with_reducible exact H2_) | (have H2_ := (Option.bind_some _ _).symm.trans H; with_reducible exact H2_) | with_reducible exact H | (rw [hy167]; exact H) | exact H | rfl
  have Ny167 := Aside0.mk hy167
  clear hy167
  by_cases c2 : y167.length + l0_0.length < 17592186044416
  rotate_left
  · rw [if_neg c2] at H
    exact absurd H (by simp)
  rw [if_pos c2] at H
  have LMc2 := Aside0.mk c2
  clear c2
  obtain ⟨y170, hy170⟩ : ∃ y_ : List Int, y_ = (y167 ++ l0_0) := ⟨_, rfl⟩
  replace H : ((some (([] : List (S49)) : List (S49))).bind fun y173 => (if y173.length + l0_1.length < 4398046511104 then (some (y170, (y173 ++ l0_1))) else (none))) = some (r1, r2) := by first | (rw [hy170]; with_reducible exact H) | (have H2_ := (Option.bind_some _ _).symm.trans H; rw [hy170]; with_reducible exact H2_) | (have H2_ := (Option.bind_some _ _).symm.trans H; with_reducible exact H2_) | with_reducible exact H | (rw [hy170]; exact H) | exact H | rfl
  have Ny170 := Aside0.mk hy170
  clear hy170
  obtain ⟨y173, hy173⟩ : ∃ y_ : List (S49), y_ = (([] : List (S49))) := ⟨_, rfl⟩
  replace H : (if y173.length + l0_1.length < 4398046511104 then (some (y170, (y173 ++ l0_1))) else (none)) = some (r1, r2) := by first | (rw [hy173]; with_reducible exact H) | (have H2_ := (Option.bind_some _ _).symm.trans H; rw [hy173]; with_reducible exact H2_) | (have H2_ := (Option.bind_some _ _).symm.trans H; with_reducible exact H2_) | with_reducible exact H | (rw [hy173]; exact H) | exact H | rfl
  have Ny173 := Aside0.mk hy173
  clear hy173
  by_cases c3 : y173.length + l0_1.length < 4398046511104
  rotate_left
  · rw [if_neg c3] at H
    exact absurd H (by simp)
  rw [if_pos c3] at H
  have LMc3 := Aside0.mk c3
  clear c3
  obtain ⟨y176, hy176⟩ : ∃ y_ : List (S49), y_ = (y173 ++ l0_1) := ⟨_, rfl⟩
  replace H : (some (y170, y176)) = some (r1, r2) := by first | (rw [hy176]; with_reducible exact H) | (have H2_ := (Option.bind_some _ _).symm.trans H; rw [hy176]; with_reducible exact H2_) | (have H2_ := (Option.bind_some _ _).symm.trans H; with_reducible exact H2_) | with_reducible exact H | (rw [hy176]; exact H) | exact H | rfl
  have Ny176 := Aside0.mk hy176
  clear hy176
  simp only [Option.some.injEq, Prod.mk.injEq] at H
  obtain ⟨rfl, rfl⟩ := H
  go_enter Try.func44, Try.ntmps44
  try go_wp2_with (first | ((with_reducible refine uS (N := 1) rfl ?_); refine uR ?hg (N := 1) ?hd (cs := #[.slice A0_0 l0_0.length c0_0, .slice A0_1 l0_1.length c0_1]) (t := 31) ?hr ?_; (case hd => rfl); (case hg => rfl); (case hr => first | (go_simp; done) | (go_simp; rfl)); intro gb165 hg w4 hbox hb; have n0_ := Aside0.mk (uP (by repeat (first | (with_reducible first | exact HB.out | apply uC | apply uA | apply uB) | exact HB.out)) hb); have n1_ := Aside0.mk (hbox); have n2_ := Aside0.mk ((by rw [hg]; exact (uK (by repeat (first | (with_reducible first | exact HB.out | apply uC | apply uA | apply uB) | exact HB.out))) : w.heap.size ≤ gb165)); have n3_ := Aside0.mk ((by rw [hg]; exact (uK (by repeat (first | (with_reducible first | exact HB.out | apply uC | apply uA | apply uB) | exact HB.out))) : w.heap.size ≤ gb165)); clear HB; have HB := n0_; have BK165 := n1_; have GW165 := n2_; have GE165 := n3_; clear n0_ n1_ n2_ n3_; clear hb hbox hg) | ((with_reducible refine uS (N := 2) rfl ?_); refine uR ?hg (N := 2) ?hd (cs := #[.slice none 0 0, .slice none 0 0]) (t := 31) ?hr ?_; (case hd => rfl); (case hg => rfl); (case hr => first | (go_simp; done) | (go_simp; rfl)); intro gb166 hg w5 hbox hb; have n0_ := Aside0.mk (uT (g := gb165) (o := .cells #[.slice A0_0 l0_0.length c0_0, .slice A0_1 l0_1.length c0_1] 31 (0, 0)) (by (with_reducible repeat (first | refine uG ?_ _ | refine uI ?_ | refine uH ?_ _)); exact BK165.out) hb); have n1_ := Aside0.mk (uP (by repeat (first | (with_reducible first | exact HB.out | apply uC | apply uA | apply uB | refine uF ?_ GE165.out) | exact HB.out)) hb); have n2_ := Aside0.mk (hbox); have n3_ := Aside0.mk ((by rw [hg]; exact (uK (by repeat (first | (with_reducible first | exact HB.out | apply uC | apply uA | apply uB | refine uF ?_ GE165.out) | exact HB.out))) : w.heap.size ≤ gb166)); have n4_ := Aside0.mk ((by rw [hg]; exact (uK (by repeat (first | (with_reducible first | exact HB.out | apply uC | apply uA | apply uB | refine uF ?_ GE165.out) | exact HB.out))) : w.heap.size ≤ gb166)); have n5_ := Aside0.mk ((by rw [hg]; exact Nat.ne_of_lt (vG (g := gb165) (o := .cells #[.slice A0_0 l0_0.length c0_0, .slice A0_1 l0_1.length c0_1] 31 (0, 0)) (by (with_reducible repeat (first | refine uG ?_ _ | refine uI ?_ | refine uH ?_ _)); exact BK165.out)) : gb165 ≠ gb166)); have n6_ := Aside0.mk ((by rw [hg]; exact Nat.ne_of_gt (vG (g := gb165) (o := .cells #[.slice A0_0 l0_0.length c0_0, .slice A0_1 l0_1.length c0_1] 31 (0, 0)) (by (with_reducible repeat (first | refine uG ?_ _ | refine uI ?_ | refine uH ?_ _)); exact BK165.out)) : gb166 ≠ gb165)); clear BK165; clear HB; have BK165 := n0_; have HB := n1_; have BK166 := n2_; have GW166 := n3_; have GE166 := n4_; have NB165_166 := n5_; have NB166_165 := n6_; clear n0_ n1_ n2_ n3_ n4_ n5_ n6_; clear hb hbox hg))
  have n0_ := Aside0.mk (uI BK165.out)
  have n1_ := Aside0.mk (uI BK166.out)
  have n2_ := Aside0.mk (uB HB.out)
  clear BK165
  clear BK166
  clear HB
  have BK165 := n0_
  have BK166 := n1_
  have HB := n2_
  clear n0_ n1_ n2_
  refine start_ (n := 10) (S := fun w' => w'.cell? ⟨gb165, 0, none⟩ = some (.slice A0_0 l0_0.length c0_0) ∧ w'.cell? ⟨gb165, 1, none⟩ = some (.slice A0_1 l0_1.length c0_1)) (ds := []) tb3 (by kernel_rfl) rfl rfl ⟨(uE BK165.out 0).trans rfl, (uE BK165.out 1).trans rfl⟩ (fun hHeld => ?_); refine with_tabW spec_l4Copy.tab1 spec_l4Copy.bits1 (fun HT_ HW_ => ?_)
  generalize w5.drew = w6 at BK165 BK166 HB hHeld ⊢
  refine uJ (i := 1) (N := some 4) (v := ?_) (a' := ?_) #[false, true, false, false, false, false, false, false, false, false] rfl rfl (vP HT_.out (by kernel_rfl)) (fun _ _ _ h => h) (Or.inl ⟨by rfl, ?_⟩) ?_ ?_
  rotate_left
  · intro w'
    go_simp
    with_reducible rfl
  rotate_left
  · simp only [Act.put, vS, vT, vU, uL, uM]
    rfl
  refine uJ (i := 5) (N := some 8) (v := ?_) (a' := ?_) #[false, true, false, false, false, true, false, false, false, false] rfl rfl (vP HT_.out (by kernel_rfl)) (fun _ _ _ h => h) (Or.inl ⟨by rfl, ?_⟩) ?_ ?_
  rotate_left
  · intro w'
    go_simp
    with_reducible rfl
  rotate_left
  · simp only [Act.put, vS, vT, vU, uL, uM]
    rfl
  refine take_ (i := 2) (N := some 5) (v := ?_) (a' := ?_) #[false, true, true, false, false, true, false, false, false, false] rfl rfl (take_ofW HT_.out HW_.out (by kernel_rfl)) (fun _ _ _ h => h) (Or.inl ⟨by rfl, ?_⟩) hHeld ?_ ?_
  rotate_left
  · rintro w' ⟨s0, s1⟩
    go_simp
    with_reducible rfl
  rotate_left
  · simp only [Act.put, vS, vT, vU, uL, uM]
    rfl
  refine take_ (i := 6) (N := some 9) (v := ?_) (a' := ?_) #[false, true, true, false, false, true, true, false, false, false] rfl rfl (take_ofW HT_.out HW_.out (by kernel_rfl)) (fun _ _ _ h => h) (Or.inl ⟨by rfl, ?_⟩) hHeld ?_ ?_
  rotate_left
  · rintro w' ⟨s0, s1⟩
    go_simp
    with_reducible rfl
  rotate_left
  · simp only [Act.put, vS, vT, vU, uL, uM]
    rfl
  refine join_ (σ := Value × Value × Value) 3 tb0 (fun s_ => [(3, s_.1), (6, s_.2.1), (7, s_.2.2)]) (fun s_ w' => (w'.cell? ⟨gb165, 0, none⟩ = some (.slice A0_0 l0_0.length c0_0) ∧ w'.cell? ⟨gb165, 1, none⟩ = some (.slice A0_1 l0_1.length c0_1)) ∧ (Kd.R (Kd.int .i64) 3 w' w.heap.size (fun _ => True) s_.2.1 y170) ∧ (Kd.R k49 49 w' w.heap.size (fun _ => True) s_.2.2 y173) ∧ (w'.heap[gb165]? = some (.cells #[.slice A0_0 l0_0.length c0_0, .slice A0_1 l0_1.length c0_1] 31 (0, 0))) ∧ (w'.heap[gb166]? = some (.cells #[.slice none 0 0, .slice none 0 0] 31 (0, 0))) ∧ (Below w.heap.size w w')) ?_ ?_
  rotate_left
  · intro hCont
    refine two_ (i := 0) (j := 4) (Ni := some 3) (Nj := some 7) #[true, true, true, false, false, true, true, false, false, false] #[false, true, true, false, true, true, true, false, false, false] rfl rfl rfl rfl (two_of HT_.out (by kernel_rfl)) (by decide) (by decide) (fun K hK => ?_) (fun K hK => ?_)
    · skip
      refine Kd.R_lit_step (Kd.int .i64) _ 3 ?hg (N := 3) ?hd (xs := ([] : List Int)) (inner := []) (ok := fun _ => True) (okp := fun _ => True) ?hr ?hp (fun _ hk => hk) trivial (Below.refl _ _) (Nat.le_refl _) (by simp) ?_; (case hd => rfl); (case hg => rfl); (case hr => first | (go_simp; done) | (go_simp; rfl)); (case hp => exact (Reps.none _ _))
      intro v168 w7 ho8 hb hg_ hnew_
      clear hg_ hnew_
      (first | rw [← Ny167.out] at ho8 | (simp only [Int.reduceToNat] at ho8; rw [← Ny167.out] at ho8))
      have n0_ := Aside0.mk (Kd.vR ho8 (uK (by repeat (first | (with_reducible first | exact HB.out | apply uC | apply uA | apply uB | refine uF ?_ GE165.out | refine uF ?_ GE166.out) | exact HB.out))))
      have n1_ := Aside0.mk (uT (g := gb165) (o := .cells #[.slice A0_0 l0_0.length c0_0, .slice A0_1 l0_1.length c0_1] 31 (0, 0)) (by (with_reducible repeat (first | refine uG ?_ _ | refine uI ?_ | refine uH ?_ _)); exact BK165.out) hb)
      have n2_ := Aside0.mk (uT (g := gb166) (o := .cells #[.slice none 0 0, .slice none 0 0] 31 (0, 0)) (by (with_reducible repeat (first | refine uG ?_ _ | refine uI ?_ | refine uH ?_ _)); exact BK166.out) hb)
      have n3_ := Aside0.mk (uP (by repeat (first | (with_reducible first | exact HB.out | apply uC | apply uA | apply uB | refine uF ?_ GE165.out | refine uF ?_ GE166.out) | exact HB.out)) hb)
      clear BK165
      clear BK166
      clear HB
      have HO169 := n0_
      have BK165 := n1_
      have BK166 := n2_
      have HB := n3_
      clear n0_ n1_ n2_ n3_
      clear hb ho8
      refine hK.out _ _ ⟨(uE BK165.out 0).trans rfl, (uE BK165.out 1).trans rfl⟩ (fun hHeld => ?_)
      clear hK K
      refine vO (a' := ?_) ?_ ?_
      rotate_left
      · show Act.put _ (some 3) _ = _
        simp only [Act.put, vS, vT, vU, uL, uM]
        rfl
      refine two_ (i := 3) (j := 4) (Ni := some 6) (Nj := some 7) #[true, true, true, true, false, true, true, false, false, false] tb2 rfl rfl rfl rfl (two_of HT_.out (by kernel_rfl)) (by decide) (by decide) (fun K hK => ?_) (fun K hK => ?_)
      · skip
        refine Kd.R_append_rows_step (Kd.int .i64) (w0 := w) w.heap.size (by rfl) (.tmp 3) (.tmp 5) 22 3 (.int .i64 0) 8 rfl Try.underlying22 info3 rfl (by decide) (by omega) v168 y167 l0_0 _ _ _ (fun _ => True) (fun _ => False) rfl rfl ?aO ?aR (fun _ _ h => h) (fun _ h => h.elim) ?aF ?aB ?aS ?aL ?_
        (case aR => repeat (first | exact (Kd.vC HR0_0.out HB.out) | (with_reducible refine Kd.vL ?_ _) | (with_reducible refine Kd.vM ?_ _) | (with_reducible refine Kd.vN ?_)))
        (case aB => exact (by repeat (first | (with_reducible first | exact HB.out | apply uC | apply uA | apply uB | refine uF ?_ GE165.out | refine uF ?_ GE166.out) | exact HB.out)))
        (case aF => exact (fun _ _ => trivial))
        (case aO => exact (by (with_reducible repeat (first | apply Kd.uO | apply Kd.uN | apply Kd.uQ)); exact HO169.out))
        (case aS => exact (uK (by repeat (first | (with_reducible first | exact HB.out | apply uC | apply uA | apply uB | refine uF ?_ GE165.out | refine uF ?_ GE166.out) | exact HB.out))))
        (case aL => have := LMc2.out; omega)
        intro v171 w9 ho hb hg hat
        rw [← Ny170.out] at ho
        have n0_ := Aside0.mk (blk_grown (g := gb165) (o := .cells #[.slice A0_0 l0_0.length c0_0, .slice A0_1 l0_1.length c0_1] 31 (0, 0)) (by (with_reducible repeat (first | refine uG ?_ _ | refine uI ?_ | refine uH ?_ _)); exact BK165.out) hg (Kd.R_ne HO169.out BK165.out (by decide)))
        have n1_ := Aside0.mk (blk_grown (g := gb166) (o := .cells #[.slice none 0 0, .slice none 0 0] 31 (0, 0)) (by (with_reducible repeat (first | refine uG ?_ _ | refine uI ?_ | refine uH ?_ _)); exact BK166.out) hg (Kd.R_ne HO169.out BK166.out (by decide)))
        have n2_ := Aside0.mk (hb)
        have n3_ := Aside0.mk (ho)
        clear BK165
        clear BK166
        clear HB
        clear HO169
        have BK165 := n0_
        have BK166 := n1_
        have HB := n2_
        have HO172 := n3_
        clear n0_ n1_ n2_ n3_
        clear ho hb hg hat
        refine hK.out _ _ ⟨(uE BK165.out 0).trans rfl, (uE BK165.out 1).trans rfl⟩ (fun hHeld => ?_)
        clear hK K
        refine vO (a' := ?_) ?_ ?_
        rotate_left
        · show Act.put _ (some 6) _ = _
          simp only [Act.put, vS, vT, vU, uL, uM]
          rfl
        refine one_ (i := 4) (N := some 7) tb0 rfl rfl (one_of HT_.out (by kernel_rfl)) (by decide) (fun K hK => ?_)
        refine Kd.R_lit_step k49 _ 49 ?hg (N := 7) ?hd (xs := ([] : List (S49))) (inner := []) (ok := fun _ => True) (okp := fun _ => True) ?hr ?hp (fun _ hk => hk) trivial (Below.refl _ _) (Nat.le_refl _) (by simp) ?_; (case hd => rfl); (case hg => rfl); (case hr => first | (go_simp; done) | (go_simp; rfl)); (case hp => exact (Reps.none _ _))
        intro v174 w10 ho11 hb hg_ hnew_
        clear hg_ hnew_
        (first | rw [← Ny173.out] at ho11 | (simp only [Int.reduceToNat] at ho11; rw [← Ny173.out] at ho11))
        have n0_ := Aside0.mk (Kd.uZ (by (with_reducible repeat (first | apply Kd.uO | apply Kd.uN | apply Kd.uQ)); exact HO172.out) hb)
        have n1_ := Aside0.mk (Kd.vR ho11 (uK (by repeat (first | (with_reducible first | exact HB.out | apply uC | apply uA | apply uB | refine uF ?_ GE165.out | refine uF ?_ GE166.out) | exact HB.out))))
        have n2_ := Aside0.mk (uT (g := gb165) (o := .cells #[.slice A0_0 l0_0.length c0_0, .slice A0_1 l0_1.length c0_1] 31 (0, 0)) (by (with_reducible repeat (first | refine uG ?_ _ | refine uI ?_ | refine uH ?_ _)); exact BK165.out) hb)
        have n3_ := Aside0.mk (uT (g := gb166) (o := .cells #[.slice none 0 0, .slice none 0 0] 31 (0, 0)) (by (with_reducible repeat (first | refine uG ?_ _ | refine uI ?_ | refine uH ?_ _)); exact BK166.out) hb)
        have n4_ := Aside0.mk (uP (by repeat (first | (with_reducible first | exact HB.out | apply uC | apply uA | apply uB | refine uF ?_ GE165.out | refine uF ?_ GE166.out) | exact HB.out)) hb)
        clear HO172
        clear BK165
        clear BK166
        clear HB
        have HO172 := n0_
        have HO175 := n1_
        have BK165 := n2_
        have BK166 := n3_
        have HB := n4_
        clear n0_ n1_ n2_ n3_ n4_
        clear hb ho11
        refine hK.out _ _ ⟨(uE BK165.out 0).trans rfl, (uE BK165.out 1).trans rfl⟩ (fun hHeld => ?_)
        clear hK K
        refine vO (a' := ?_) ?_ ?_
        rotate_left
        · show Act.put _ (some 7) _ = _
          simp only [Act.put, vS, vT, vU, uL, uM]
          rfl
        exact vO (by simp only [putAll, Act.put, vS, vT, vU]) (hCont (v168, v171, v174) _ ⟨hHeld, (by (with_reducible repeat (first | apply Kd.uO | apply Kd.uN | apply Kd.uQ)); exact HO172.out), (by (with_reducible repeat (first | apply Kd.uO | apply Kd.uN | apply Kd.uQ)); exact HO175.out), (by (with_reducible repeat (first | refine uG ?_ _ | refine uI ?_ | refine uH ?_ _)); exact BK165.out), (by (with_reducible repeat (first | refine uG ?_ _ | refine uI ?_ | refine uH ?_ _)); exact BK166.out), (by repeat (first | (with_reducible first | exact HB.out | apply uC | apply uA | apply uB | refine uF ?_ GE165.out | refine uF ?_ GE166.out) | exact HB.out))⟩)
      skip
      refine Kd.R_lit_step k49 _ 49 ?hg (N := 7) ?hd (xs := ([] : List (S49))) (inner := []) (ok := fun _ => True) (okp := fun _ => True) ?hr ?hp (fun _ hk => hk) trivial (Below.refl _ _) (Nat.le_refl _) (by simp) ?_; (case hd => rfl); (case hg => rfl); (case hr => first | (go_simp; done) | (go_simp; rfl)); (case hp => exact (Reps.none _ _))
      intro v174 w9 ho10 hb hg_ hnew_
      clear hg_ hnew_
      (first | rw [← Ny173.out] at ho10 | (simp only [Int.reduceToNat] at ho10; rw [← Ny173.out] at ho10))
      have n0_ := Aside0.mk (Kd.uZ (by (with_reducible repeat (first | apply Kd.uO | apply Kd.uN | apply Kd.uQ)); exact HO169.out) hb)
      have n1_ := Aside0.mk (Kd.vR ho10 (uK (by repeat (first | (with_reducible first | exact HB.out | apply uC | apply uA | apply uB | refine uF ?_ GE165.out | refine uF ?_ GE166.out) | exact HB.out))))
      have n2_ := Aside0.mk (uT (g := gb165) (o := .cells #[.slice A0_0 l0_0.length c0_0, .slice A0_1 l0_1.length c0_1] 31 (0, 0)) (by (with_reducible repeat (first | refine uG ?_ _ | refine uI ?_ | refine uH ?_ _)); exact BK165.out) hb)
      have n3_ := Aside0.mk (uT (g := gb166) (o := .cells #[.slice none 0 0, .slice none 0 0] 31 (0, 0)) (by (with_reducible repeat (first | refine uG ?_ _ | refine uI ?_ | refine uH ?_ _)); exact BK166.out) hb)
      have n4_ := Aside0.mk (uP (by repeat (first | (with_reducible first | exact HB.out | apply uC | apply uA | apply uB | refine uF ?_ GE165.out | refine uF ?_ GE166.out) | exact HB.out)) hb)
      clear HO169
      clear BK165
      clear BK166
      clear HB
      have HO169 := n0_
      have HO175 := n1_
      have BK165 := n2_
      have BK166 := n3_
      have HB := n4_
      clear n0_ n1_ n2_ n3_ n4_
      clear hb ho10
      refine hK.out _ _ ⟨(uE BK165.out 0).trans rfl, (uE BK165.out 1).trans rfl⟩ (fun hHeld => ?_)
      clear hK K
      refine vO (a' := ?_) ?_ ?_
      rotate_left
      · show Act.put _ (some 7) _ = _
        simp only [Act.put, vS, vT, vU, uL, uM]
        rfl
      refine one_ (i := 3) (N := some 6) tb0 rfl rfl (one_of HT_.out (by kernel_rfl)) (by decide) (fun K hK => ?_)
      refine Kd.R_append_rows_step (Kd.int .i64) (w0 := w) w.heap.size (by rfl) (.tmp 3) (.tmp 5) 22 3 (.int .i64 0) 8 rfl Try.underlying22 info3 rfl (by decide) (by omega) v168 y167 l0_0 _ _ _ (fun _ => True) (fun _ => False) rfl rfl ?aO ?aR (fun _ _ h => h) (fun _ h => h.elim) ?aF ?aB ?aS ?aL ?_
      (case aR => repeat (first | exact (Kd.vC HR0_0.out HB.out) | (with_reducible refine Kd.vL ?_ _) | (with_reducible refine Kd.vM ?_ _) | (with_reducible refine Kd.vN ?_)))
      (case aB => exact (by repeat (first | (with_reducible first | exact HB.out | apply uC | apply uA | apply uB | refine uF ?_ GE165.out | refine uF ?_ GE166.out) | exact HB.out)))
      (case aF => exact (fun _ _ => trivial))
      (case aO => exact (by (with_reducible repeat (first | apply Kd.uO | apply Kd.uN | apply Kd.uQ)); exact HO169.out))
      (case aS => exact (uK (by repeat (first | (with_reducible first | exact HB.out | apply uC | apply uA | apply uB | refine uF ?_ GE165.out | refine uF ?_ GE166.out) | exact HB.out))))
      (case aL => have := LMc2.out; omega)
      intro v171 w11 ho hb hg hat
      rw [← Ny170.out] at ho
      have n0_ := Aside0.mk (blk_grown (g := gb165) (o := .cells #[.slice A0_0 l0_0.length c0_0, .slice A0_1 l0_1.length c0_1] 31 (0, 0)) (by (with_reducible repeat (first | refine uG ?_ _ | refine uI ?_ | refine uH ?_ _)); exact BK165.out) hg (Kd.R_ne HO169.out BK165.out (by decide)))
      have n1_ := Aside0.mk (blk_grown (g := gb166) (o := .cells #[.slice none 0 0, .slice none 0 0] 31 (0, 0)) (by (with_reducible repeat (first | refine uG ?_ _ | refine uI ?_ | refine uH ?_ _)); exact BK166.out) hg (Kd.R_ne HO169.out BK166.out (by decide)))
      have n2_ := Aside0.mk (Kd.R_over' (by (with_reducible repeat (first | apply Kd.uO | apply Kd.uN | apply Kd.uQ)); exact HO175.out) (Kd.R_typed (by (with_reducible repeat (first | apply Kd.uO | apply Kd.uN | apply Kd.uQ)); exact HO169.out)) (by decide) hg)
      have n3_ := Aside0.mk (hb)
      have n4_ := Aside0.mk (ho)
      clear BK165
      clear BK166
      clear HO175
      clear HB
      clear HO169
      have BK165 := n0_
      have BK166 := n1_
      have HO175 := n2_
      have HB := n3_
      have HO172 := n4_
      clear n0_ n1_ n2_ n3_ n4_
      clear ho hb hg hat
      refine hK.out _ _ ⟨(uE BK165.out 0).trans rfl, (uE BK165.out 1).trans rfl⟩ (fun hHeld => ?_)
      clear hK K
      refine vO (a' := ?_) ?_ ?_
      rotate_left
      · show Act.put _ (some 6) _ = _
        simp only [Act.put, vS, vT, vU, uL, uM]
        rfl
      exact vO (by simp only [putAll, Act.put, vS, vT, vU]) (hCont (v168, v171, v174) _ ⟨hHeld, (by (with_reducible repeat (first | apply Kd.uO | apply Kd.uN | apply Kd.uQ)); exact HO172.out), (by (with_reducible repeat (first | apply Kd.uO | apply Kd.uN | apply Kd.uQ)); exact HO175.out), (by (with_reducible repeat (first | refine uG ?_ _ | refine uI ?_ | refine uH ?_ _)); exact BK165.out), (by (with_reducible repeat (first | refine uG ?_ _ | refine uI ?_ | refine uH ?_ _)); exact BK166.out), (by repeat (first | (with_reducible first | exact HB.out | apply uC | apply uA | apply uB | refine uF ?_ GE165.out | refine uF ?_ GE166.out) | exact HB.out))⟩)
    skip
    refine Kd.R_lit_step k49 _ 49 ?hg (N := 7) ?hd (xs := ([] : List (S49))) (inner := []) (ok := fun _ => True) (okp := fun _ => True) ?hr ?hp (fun _ hk => hk) trivial (Below.refl _ _) (Nat.le_refl _) (by simp) ?_; (case hd => rfl); (case hg => rfl); (case hr => first | (go_simp; done) | (go_simp; rfl)); (case hp => exact (Reps.none _ _))
    intro v174 w7 ho8 hb hg_ hnew_
    clear hg_ hnew_
    (first | rw [← Ny173.out] at ho8 | (simp only [Int.reduceToNat] at ho8; rw [← Ny173.out] at ho8))
    have n0_ := Aside0.mk (Kd.vR ho8 (uK (by repeat (first | (with_reducible first | exact HB.out | apply uC | apply uA | apply uB | refine uF ?_ GE165.out | refine uF ?_ GE166.out) | exact HB.out))))
    have n1_ := Aside0.mk (uT (g := gb165) (o := .cells #[.slice A0_0 l0_0.length c0_0, .slice A0_1 l0_1.length c0_1] 31 (0, 0)) (by (with_reducible repeat (first | refine uG ?_ _ | refine uI ?_ | refine uH ?_ _)); exact BK165.out) hb)
    have n2_ := Aside0.mk (uT (g := gb166) (o := .cells #[.slice none 0 0, .slice none 0 0] 31 (0, 0)) (by (with_reducible repeat (first | refine uG ?_ _ | refine uI ?_ | refine uH ?_ _)); exact BK166.out) hb)
    have n3_ := Aside0.mk (uP (by repeat (first | (with_reducible first | exact HB.out | apply uC | apply uA | apply uB | refine uF ?_ GE165.out | refine uF ?_ GE166.out) | exact HB.out)) hb)
    clear BK165
    clear BK166
    clear HB
    have HO175 := n0_
    have BK165 := n1_
    have BK166 := n2_
    have HB := n3_
    clear n0_ n1_ n2_ n3_
    clear hb ho8
    refine hK.out _ _ ⟨(uE BK165.out 0).trans rfl, (uE BK165.out 1).trans rfl⟩ (fun hHeld => ?_)
    clear hK K
    refine vO (a' := ?_) ?_ ?_
    rotate_left
    · show Act.put _ (some 7) _ = _
      simp only [Act.put, vS, vT, vU, uL, uM]
      rfl
    refine one_ (i := 0) (N := some 3) tb2 rfl rfl (one_of HT_.out (by kernel_rfl)) (by decide) (fun K hK => ?_)
    refine Kd.R_lit_step (Kd.int .i64) _ 3 ?hg (N := 3) ?hd (xs := ([] : List Int)) (inner := []) (ok := fun _ => True) (okp := fun _ => True) ?hr ?hp (fun _ hk => hk) trivial (Below.refl _ _) (Nat.le_refl _) (by simp) ?_; (case hd => rfl); (case hg => rfl); (case hr => first | (go_simp; done) | (go_simp; rfl)); (case hp => exact (Reps.none _ _))
    intro v168 w9 ho10 hb hg_ hnew_
    clear hg_ hnew_
    (first | rw [← Ny167.out] at ho10 | (simp only [Int.reduceToNat] at ho10; rw [← Ny167.out] at ho10))
    have n0_ := Aside0.mk (Kd.uZ (by (with_reducible repeat (first | apply Kd.uO | apply Kd.uN | apply Kd.uQ)); exact HO175.out) hb)
    have n1_ := Aside0.mk (Kd.vR ho10 (uK (by repeat (first | (with_reducible first | exact HB.out | apply uC | apply uA | apply uB | refine uF ?_ GE165.out | refine uF ?_ GE166.out) | exact HB.out))))
    have n2_ := Aside0.mk (uT (g := gb165) (o := .cells #[.slice A0_0 l0_0.length c0_0, .slice A0_1 l0_1.length c0_1] 31 (0, 0)) (by (with_reducible repeat (first | refine uG ?_ _ | refine uI ?_ | refine uH ?_ _)); exact BK165.out) hb)
    have n3_ := Aside0.mk (uT (g := gb166) (o := .cells #[.slice none 0 0, .slice none 0 0] 31 (0, 0)) (by (with_reducible repeat (first | refine uG ?_ _ | refine uI ?_ | refine uH ?_ _)); exact BK166.out) hb)
    have n4_ := Aside0.mk (uP (by repeat (first | (with_reducible first | exact HB.out | apply uC | apply uA | apply uB | refine uF ?_ GE165.out | refine uF ?_ GE166.out) | exact HB.out)) hb)
    clear HO175
    clear BK165
    clear BK166
    clear HB
    have HO175 := n0_
    have HO169 := n1_
    have BK165 := n2_
    have BK166 := n3_
    have HB := n4_
    clear n0_ n1_ n2_ n3_ n4_
    clear hb ho10
    refine hK.out _ _ ⟨(uE BK165.out 0).trans rfl, (uE BK165.out 1).trans rfl⟩ (fun hHeld => ?_)
    clear hK K
    refine vO (a' := ?_) ?_ ?_
    rotate_left
    · show Act.put _ (some 3) _ = _
      simp only [Act.put, vS, vT, vU, uL, uM]
      rfl
    refine one_ (i := 3) (N := some 6) tb0 rfl rfl (one_of HT_.out (by kernel_rfl)) (by decide) (fun K hK => ?_)
    refine Kd.R_append_rows_step (Kd.int .i64) (w0 := w) w.heap.size (by rfl) (.tmp 3) (.tmp 5) 22 3 (.int .i64 0) 8 rfl Try.underlying22 info3 rfl (by decide) (by omega) v168 y167 l0_0 _ _ _ (fun _ => True) (fun _ => False) rfl rfl ?aO ?aR (fun _ _ h => h) (fun _ h => h.elim) ?aF ?aB ?aS ?aL ?_
    (case aR => repeat (first | exact (Kd.vC HR0_0.out HB.out) | (with_reducible refine Kd.vL ?_ _) | (with_reducible refine Kd.vM ?_ _) | (with_reducible refine Kd.vN ?_)))
    (case aB => exact (by repeat (first | (with_reducible first | exact HB.out | apply uC | apply uA | apply uB | refine uF ?_ GE165.out | refine uF ?_ GE166.out) | exact HB.out)))
    (case aF => exact (fun _ _ => trivial))
    (case aO => exact (by (with_reducible repeat (first | apply Kd.uO | apply Kd.uN | apply Kd.uQ)); exact HO169.out))
    (case aS => exact (uK (by repeat (first | (with_reducible first | exact HB.out | apply uC | apply uA | apply uB | refine uF ?_ GE165.out | refine uF ?_ GE166.out) | exact HB.out))))
    (case aL => have := LMc2.out; omega)
    intro v171 w11 ho hb hg hat
    rw [← Ny170.out] at ho
    have n0_ := Aside0.mk (blk_grown (g := gb165) (o := .cells #[.slice A0_0 l0_0.length c0_0, .slice A0_1 l0_1.length c0_1] 31 (0, 0)) (by (with_reducible repeat (first | refine uG ?_ _ | refine uI ?_ | refine uH ?_ _)); exact BK165.out) hg (Kd.R_ne HO169.out BK165.out (by decide)))
    have n1_ := Aside0.mk (blk_grown (g := gb166) (o := .cells #[.slice none 0 0, .slice none 0 0] 31 (0, 0)) (by (with_reducible repeat (first | refine uG ?_ _ | refine uI ?_ | refine uH ?_ _)); exact BK166.out) hg (Kd.R_ne HO169.out BK166.out (by decide)))
    have n2_ := Aside0.mk (Kd.R_over' (by (with_reducible repeat (first | apply Kd.uO | apply Kd.uN | apply Kd.uQ)); exact HO175.out) (Kd.R_typed (by (with_reducible repeat (first | apply Kd.uO | apply Kd.uN | apply Kd.uQ)); exact HO169.out)) (by decide) hg)
    have n3_ := Aside0.mk (hb)
    have n4_ := Aside0.mk (ho)
    clear BK165
    clear BK166
    clear HO175
    clear HB
    clear HO169
    have BK165 := n0_
    have BK166 := n1_
    have HO175 := n2_
    have HB := n3_
    have HO172 := n4_
    clear n0_ n1_ n2_ n3_ n4_
    clear ho hb hg hat
    refine hK.out _ _ ⟨(uE BK165.out 0).trans rfl, (uE BK165.out 1).trans rfl⟩ (fun hHeld => ?_)
    clear hK K
    refine vO (a' := ?_) ?_ ?_
    rotate_left
    · show Act.put _ (some 6) _ = _
      simp only [Act.put, vS, vT, vU, uL, uM]
      rfl
    exact vO (by simp only [putAll, Act.put, vS, vT, vU]) (hCont (v168, v171, v174) _ ⟨hHeld, (by (with_reducible repeat (first | apply Kd.uO | apply Kd.uN | apply Kd.uQ)); exact HO172.out), (by (with_reducible repeat (first | apply Kd.uO | apply Kd.uN | apply Kd.uQ)); exact HO175.out), (by (with_reducible repeat (first | refine uG ?_ _ | refine uI ?_ | refine uH ?_ _)); exact BK165.out), (by (with_reducible repeat (first | refine uG ?_ _ | refine uI ?_ | refine uH ?_ _)); exact BK166.out), (by repeat (first | (with_reducible first | exact HB.out | apply uC | apply uA | apply uB | refine uF ?_ GE165.out | refine uF ?_ GE166.out) | exact HB.out))⟩)
  rintro ⟨v168, v171, v174⟩ w12 ⟨hS_, h0_, h1_, h2_, h3_, h4_⟩
  have n0_ : Aside0 (Kd.R (Kd.int .i64) 3 w12 w.heap.size (fun _ => True) v171 y170) := ⟨h0_⟩
  have n1_ : Aside0 (Kd.R k49 49 w12 w.heap.size (fun _ => True) v174 y173) := ⟨h1_⟩
  have n2_ : Aside0 (w12.heap[gb165]? = some (.cells #[.slice A0_0 l0_0.length c0_0, .slice A0_1 l0_1.length c0_1] 31 (0, 0))) := ⟨h2_⟩
  have n3_ : Aside0 (w12.heap[gb166]? = some (.cells #[.slice none 0 0, .slice none 0 0] 31 (0, 0))) := ⟨h3_⟩
  have n4_ : Aside0 (Below w.heap.size w w12) := ⟨h4_⟩
  clear BK165
  clear BK166
  clear HB
  clear h0_ h1_ h2_ h3_ h4_
  have HO172 := n0_
  have HO175 := n1_
  have BK165 := n2_
  have BK166 := n3_
  have HB := n4_
  clear n0_ n1_ n2_ n3_ n4_
  have hHeld : w12.cell? ⟨gb165, 0, none⟩ = some (.slice A0_0 l0_0.length c0_0) ∧ w12.cell? ⟨gb165, 1, none⟩ = some (.slice A0_1 l0_1.length c0_1) := hS_
  refine vO (a' := ?_) ?_ ?_
  rotate_left
  · simp only [putAll, Act.put, vS, vT, vU]
    rfl
  refine one_ (i := 7) (N := some 10) tb4 rfl rfl (one_of HT_.out (by kernel_rfl)) (by decide) (fun K hK => ?_)
  refine Kd.R_append_rows_step k49 (w0 := w) w.heap.size (by rfl) (.tmp 7) (.tmp 9) 29 49 (.agg #[(.int .i64 0), (.int .i64 0), (.bool false), (.int .i64 0)]) 32 rfl Try.underlying29 info49 rfl (by decide) (by omega) v174 y173 l0_1 _ _ _ (fun _ => True) (fun _ => False) rfl rfl ?aO ?aR (fun _ _ h => h) (fun _ h => h.elim) ?aF ?aB ?aS ?aL ?_
  (case aR => repeat (first | exact (Kd.vC HR0_1.out HB.out) | (with_reducible refine Kd.vL ?_ _) | (with_reducible refine Kd.vM ?_ _) | (with_reducible refine Kd.vN ?_)))
  (case aB => exact (by repeat (first | (with_reducible first | exact HB.out | apply uC | apply uA | apply uB | refine uF ?_ GE165.out | refine uF ?_ GE166.out) | exact HB.out)))
  (case aF => exact (fun _ _ => trivial))
  (case aO => exact (by (with_reducible repeat (first | apply Kd.uO | apply Kd.uN | apply Kd.uQ)); exact HO175.out))
  (case aS => exact (uK (by repeat (first | (with_reducible first | exact HB.out | apply uC | apply uA | apply uB | refine uF ?_ GE165.out | refine uF ?_ GE166.out) | exact HB.out))))
  (case aL => have := LMc3.out; omega)
  intro v177 w13 ho hb hg hat
  rw [← Ny176.out] at ho
  have n0_ := Aside0.mk (blk_grown (g := gb165) (o := .cells #[.slice A0_0 l0_0.length c0_0, .slice A0_1 l0_1.length c0_1] 31 (0, 0)) (by (with_reducible repeat (first | refine uG ?_ _ | refine uI ?_ | refine uH ?_ _)); exact BK165.out) hg (Kd.R_ne HO175.out BK165.out (by decide)))
  have n1_ := Aside0.mk (blk_grown (g := gb166) (o := .cells #[.slice none 0 0, .slice none 0 0] 31 (0, 0)) (by (with_reducible repeat (first | refine uG ?_ _ | refine uI ?_ | refine uH ?_ _)); exact BK166.out) hg (Kd.R_ne HO175.out BK166.out (by decide)))
  have n2_ := Aside0.mk (Kd.R_over' (by (with_reducible repeat (first | apply Kd.uO | apply Kd.uN | apply Kd.uQ)); exact HO172.out) (Kd.R_typed (by (with_reducible repeat (first | apply Kd.uO | apply Kd.uN | apply Kd.uQ)); exact HO175.out)) (by decide) hg)
  have n3_ := Aside0.mk (hb)
  have n4_ := Aside0.mk (ho)
  clear BK165
  clear BK166
  clear HO172
  clear HB
  clear HO175
  have BK165 := n0_
  have BK166 := n1_
  have HO172 := n2_
  have HB := n3_
  have HO178 := n4_
  clear n0_ n1_ n2_ n3_ n4_
  clear ho hb hg hat
  obtain ⟨Ao14, co14, eo14⟩ := Kd.vK HO178.out
  (first | subst eo14 | (injection eo14 with f1_ f2_ f3_; have f4_ := f1_.symm; have f5_ := f3_.symm; clear f1_ f2_ f3_; subst f4_; subst f5_))
  obtain ⟨Ao15, co15, eo15⟩ := Kd.vK HO172.out
  (first | subst eo15 | (injection eo15 with f1_ f2_ f3_; have f4_ := f1_.symm; have f5_ := f3_.symm; clear f1_ f2_ f3_; subst f4_; subst f5_))
  refine hK.out _ _ ⟨(uE BK165.out 0).trans rfl, (uE BK165.out 1).trans rfl⟩ (fun hHeld => ?_)
  clear hK K
  refine vO (a' := ?_) ?_ ?_
  rotate_left
  · show Act.put _ (some 10) _ = _
    simp only [Act.put, vS, vT, vU, uL, uM]
    rfl
  refine uJ (i := 8) (N := some 11) (v := ?_) (a' := ?_) tb5 rfl rfl (vP HT_.out (by kernel_rfl)) (fun _ _ _ h => h) (Or.inl ⟨by rfl, ?_⟩) ?_ ?_
  rotate_left
  · intro w'
    go_simp
    with_reducible rfl
  rotate_left
  · simp only [Act.put, vS, vT, vU, uL, uM]
    rfl
  refine one_ (i := 9) (N := none) tb6 rfl rfl (one_of HT_.out (by kernel_rfl)) (by decide) (fun K hK => ?_)
  have hs16 : w13.cell? ⟨gb166, 0, none⟩ = some (.slice none 0 0) := (uE BK166.out 0).trans rfl
  have hfs16 := uD BK166.out 0
  have hns16_0 := NB165_166.out
  have hms16_0 := NB166_165.out
  have hs17 : w13.cell? ⟨gb166, 1, none⟩ = some (.slice none 0 0) := (uE BK166.out 1).trans rfl
  have hfs17 := uD BK166.out 1
  have hns17_0 := NB165_166.out
  have hms17_0 := NB166_165.out
  refine skip_ (w1 := ?_) (by rfl) rfl ?_ ?_
  rotate_left
  · go_simp
    rfl
  refine hK.out _ _ ⟨((cell_far (p := ⟨gb166, _, none⟩) NB165_166.out _).trans (((cell_far (p := ⟨gb166, _, none⟩) NB165_166.out _).trans (hHeld.1)))), ((cell_far (p := ⟨gb166, _, none⟩) NB165_166.out _).trans (((cell_far (p := ⟨gb166, _, none⟩) NB165_166.out _).trans (hHeld.2))))⟩ (fun hHeld => ?_)
  clear hK K
  refine done_ (done_of HT_.out (by kernel_rfl)) ?_
  try go_wp2
  refine bodyPost_ret (results_cell_row rfl _ _ gb166 31 #[.slice Ao15 y170.length co15, .slice Ao14 y176.length co14] (0, 0) _ rfl (by (with_reducible repeat (first | refine uG ?_ _ | refine uI ?_ | refine uH ?_ _)); refine vB (cs := #[.slice Ao15 y170.length co15, .slice none 0 0]) ?_ 1 _ rfl; (with_reducible repeat (first | refine uG ?_ _ | refine uI ?_ | refine uH ?_ _)); refine vB (cs := #[.slice none 0 0, .slice none 0 0]) ?_ 0 _ rfl; (with_reducible repeat (first | refine uG ?_ _ | refine uI ?_ | refine uH ?_ _)); exact BK166.out) Try.underlying31 rfl (by kernel_rfl)) rfl ?_
  exact ⟨_, _, by first | rfl | (simp [errW_none, errW_some] <;> rfl) | (simp [*, errW_none, errW_some] <;> rfl), by (with_reducible repeat (first | apply Kd.uO | apply Kd.uN | apply Kd.uQ)); exact Kd.uY (Kd.uX (p := ⟨gb166, 1, none⟩) (Kd.uX (p := ⟨gb166, 0, none⟩) (Kd.vH HO172.out BK166.out (by decide)) (fun _ hk => hk.2) (.slice Ao15 y170.length co15)) (fun _ hk => hk.2) (.slice Ao14 y176.length co14)) (fun _ hk => trivial), by (with_reducible repeat (first | apply Kd.uO | apply Kd.uN | apply Kd.uQ)); exact Kd.uY (Kd.uX (p := ⟨gb166, 1, none⟩) (Kd.uX (p := ⟨gb166, 0, none⟩) (Kd.vH HO178.out BK166.out (by decide)) (fun _ hk => hk.2) (.slice Ao15 y170.length co15)) (fun _ hk => hk.2) (.slice Ao14 y176.length co14)) (fun _ hk => trivial), by repeat (first | (with_reducible first | exact HB.out | apply uC | apply uA | apply uB | refine uF ?_ GE165.out | refine uF ?_ GE166.out) | exact HB.out)⟩

end Go.Proofs.Ytcikahnmiiichaa.R
