/- Go functions as Lean functions, and the proof that the code comes to them: written by a program of this session out of the translation. -/
import Derived.Test.YtcikahnmiiichaaT0
import Derived.Test.YtcikahnmiiichaaT1
import Derived.Test.YtcikahnmiiichaaT7
import Derived.Test.YtcikahnmiiichaaT8
import Derived.Test.YtcikahnmiiichaaT13
namespace Go.Proofs.Ytcikahnmiiichaa.T
open List renaming setIfInBounds_toArray → vU, set_cons_zero → vV, set_cons_succ → vW, map_toArray → vX, length_take → vY, length_drop → vZ
open Go.World renaming block_lt_of_cell? → yA
open Go.RowKit Go.Proofs.YtcikahnmiiichaaW.PrintWords Go.Proofs.YtcikahnmiiichaaW.PrintLast Go.Proofs.YtcikahnmiiichaaW.PrintMore
attribute [local go_sem] max2_int min2_int max_two min_two max_three min_three max_four min_four   -- for this text's walks alone
set_option linter.unusedVariables false
set_option linter.unusedSimpArgs false

/-! ### laws_eqOp: function 87 -/
def laws_eqOp.f (a0_0 : Int) (a0_1 : Int) (a0_2 : Int) (a0_3 : Int) (a0_4 : Int) (a0_5 : Int) (a1_0 : Int) (a1_1 : Int) (a1_2 : Int) (a1_3 : Int) (a1_4 : Int) (a1_5 : Int) : Option (Bool) := if a0_0 = a1_0 then (if a0_1 = a1_1 then (if a0_2 = a1_2 then (if a0_3 = a1_3 then (if a0_4 = a1_4 then (if a0_5 = a1_5 then (some true) else (some false)) else (some false)) else (some false)) else (some false)) else (some false)) else (some false)
set_option maxHeartbeats 8000000 in
set_option maxRecDepth 100000 in
theorem laws_eqOp.calls (a0_0 : Int) (a0_1 : Int) (a0_2 : Int) (a0_3 : Int) (a0_4 : Int) (a0_5 : Int) (a1_0 : Int) (a1_1 : Int) (a1_2 : Int) (a1_3 : Int) (a1_4 : Int) (a1_5 : Int) (r : Bool) (w : World) (h : laws_eqOp.f a0_0 a0_1 a0_2 a0_3 a0_4 a0_5 a1_0 a1_1 a1_2 a1_3 a1_4 a1_5 = some r) :
    Calls Try.prog 87 #[.agg #[.int .i64 a0_0, .int .i64 a0_1, .int .i64 a0_2, .int .i64 a0_3, .int .i64 a0_4, .int .i64 a0_5], .agg #[.int .i64 a1_0, .int .i64 a1_1, .int .i64 a1_2, .int .i64 a1_3, .int .i64 a1_4, .int .i64 a1_5]] w fun e w' => e = .returned (.bool r) ∧ Below w.heap.size w w' := by
  have hu37 := Try.underlying37
  have HB := Aside0.mk (Below.refl w.heap.size w)
  have H : (if a0_0 = a1_0 then (if a0_1 = a1_1 then (if a0_2 = a1_2 then (if a0_3 = a1_3 then (if a0_4 = a1_4 then (if a0_5 = a1_5 then (some true) else (some false)) else (some false)) else (some false)) else (some false)) else (some false)) else (some false)) = some r := h
  clear h
  go_enter Try.func87, Try.ntmps87
  go_wp2_with (first | ((with_reducible refine uU (N := 2) rfl ?_); refine uT ?hg (N := 2) ?hd (cs := #[.int .i64 a0_0, .int .i64 a0_1, .int .i64 a0_2, .int .i64 a0_3, .int .i64 a0_4, .int .i64 a0_5]) (t := 37) ?hr ?_; (case hd => rfl); (case hg => rfl); (case hr => first | (go_simp; done) | (go_simp; rfl)); intro gb272 hg w39 hbox hb; have n0_ := Aside0.mk (uS (by repeat (first | (with_reducible first | exact HB.out | apply uG | apply uA | apply uF) | exact HB.out)) hb); have n1_ := Aside0.mk (hbox); have n2_ := Aside0.mk ((by rw [hg]; exact (uQ (by repeat (first | (with_reducible first | exact HB.out | apply uG | apply uA | apply uF) | exact HB.out))) : w.heap.size ≤ gb272)); have n3_ := Aside0.mk ((by rw [hg]; exact (uQ (by repeat (first | (with_reducible first | exact HB.out | apply uG | apply uA | apply uF) | exact HB.out))) : w.heap.size ≤ gb272)); clear HB; have HB := n0_; have BK272 := n1_; have GW272 := n2_; have GE272 := n3_; clear n0_ n1_ n2_ n3_; clear hb hbox hg) | ((with_reducible refine uU (N := 3) rfl ?_); refine uT ?hg (N := 3) ?hd (cs := #[.int .i64 a1_0, .int .i64 a1_1, .int .i64 a1_2, .int .i64 a1_3, .int .i64 a1_4, .int .i64 a1_5]) (t := 37) ?hr ?_; (case hd => rfl); (case hg => rfl); (case hr => first | (go_simp; done) | (go_simp; rfl)); intro gb273 hg w40 hbox hb; have n0_ := Aside0.mk (uR (g := gb272) (o := .cells #[.int .i64 a0_0, .int .i64 a0_1, .int .i64 a0_2, .int .i64 a0_3, .int .i64 a0_4, .int .i64 a0_5] 37 (0, 0)) (by (with_reducible repeat (first | refine uC ?_ _ | refine uE ?_ | refine uD ?_ _)); exact BK272.out) hb); have n1_ := Aside0.mk (uS (by repeat (first | (with_reducible first | exact HB.out | apply uG | apply uA | apply uF | refine uB ?_ GE272.out) | exact HB.out)) hb); have n2_ := Aside0.mk (hbox); have n3_ := Aside0.mk ((by rw [hg]; exact (uQ (by repeat (first | (with_reducible first | exact HB.out | apply uG | apply uA | apply uF | refine uB ?_ GE272.out) | exact HB.out))) : w.heap.size ≤ gb273)); have n4_ := Aside0.mk ((by rw [hg]; exact (uQ (by repeat (first | (with_reducible first | exact HB.out | apply uG | apply uA | apply uF | refine uB ?_ GE272.out) | exact HB.out))) : w.heap.size ≤ gb273)); have n5_ := Aside0.mk ((by rw [hg]; exact Nat.ne_of_lt (uV (g := gb272) (o := .cells #[.int .i64 a0_0, .int .i64 a0_1, .int .i64 a0_2, .int .i64 a0_3, .int .i64 a0_4, .int .i64 a0_5] 37 (0, 0)) (by (with_reducible repeat (first | refine uC ?_ _ | refine uE ?_ | refine uD ?_ _)); exact BK272.out)) : gb272 ≠ gb273)); have n6_ := Aside0.mk ((by rw [hg]; exact Nat.ne_of_gt (uV (g := gb272) (o := .cells #[.int .i64 a0_0, .int .i64 a0_1, .int .i64 a0_2, .int .i64 a0_3, .int .i64 a0_4, .int .i64 a0_5] 37 (0, 0)) (by (with_reducible repeat (first | refine uC ?_ _ | refine uE ?_ | refine uD ?_ _)); exact BK272.out)) : gb273 ≠ gb272)); clear BK272; clear HB; have BK272 := n0_; have HB := n1_; have BK273 := n2_; have GW273 := n3_; have GE273 := n4_; have NB272_273 := n5_; have NB273_272 := n6_; clear n0_ n1_ n2_ n3_ n4_ n5_ n6_; clear hb hbox hg; have hnb41 := NB272_273.out; have hnc41 := NB273_272.out; have hcz42_0 : w40.cell? ⟨gb272, 0, none⟩ = some (.int .i64 a0_0) := (uI BK272.out 0).trans rfl; have hcz42_1 : w40.cell? ⟨gb272, 1, none⟩ = some (.int .i64 a0_1) := (uI BK272.out 1).trans rfl; have hcz42_2 : w40.cell? ⟨gb272, 2, none⟩ = some (.int .i64 a0_2) := (uI BK272.out 2).trans rfl; have hcz42_3 : w40.cell? ⟨gb272, 3, none⟩ = some (.int .i64 a0_3) := (uI BK272.out 3).trans rfl; have hcz42_4 : w40.cell? ⟨gb272, 4, none⟩ = some (.int .i64 a0_4) := (uI BK272.out 4).trans rfl; have hcz42_5 : w40.cell? ⟨gb272, 5, none⟩ = some (.int .i64 a0_5) := (uI BK272.out 5).trans rfl; have hfz42_0 := uK BK272.out 0; have hfz42_1 := uK BK272.out 1; have hfz42_2 := uK BK272.out 2; have hfz42_3 := uK BK272.out 3; have hfz42_4 := uK BK272.out 4; have hfz42_5 := uK BK272.out 5; have hcz43_0 : w40.cell? ⟨gb273, 0, none⟩ = some (.int .i64 a1_0) := (uI BK273.out 0).trans rfl; have hcz43_1 : w40.cell? ⟨gb273, 1, none⟩ = some (.int .i64 a1_1) := (uI BK273.out 1).trans rfl; have hcz43_2 : w40.cell? ⟨gb273, 2, none⟩ = some (.int .i64 a1_2) := (uI BK273.out 2).trans rfl; have hcz43_3 : w40.cell? ⟨gb273, 3, none⟩ = some (.int .i64 a1_3) := (uI BK273.out 3).trans rfl; have hcz43_4 : w40.cell? ⟨gb273, 4, none⟩ = some (.int .i64 a1_4) := (uI BK273.out 4).trans rfl; have hcz43_5 : w40.cell? ⟨gb273, 5, none⟩ = some (.int .i64 a1_5) := (uI BK273.out 5).trans rfl; have hfz43_0 := uK BK273.out 0; have hfz43_1 := uK BK273.out 1; have hfz43_2 := uK BK273.out 2; have hfz43_3 := uK BK273.out 3; have hfz43_4 := uK BK273.out 4; have hfz43_5 := uK BK273.out 5; refine ?roundEnd))
  case roundEnd =>
  by_cases c3 : a0_0 = a1_0
  rotate_left
  · rw [if_neg c3] at H
    have c3b0 : (a0_0 == a1_0) = false := beq_eq_false_iff_ne.mpr c3
    have c3b1 : (a0_0 != a1_0) = true := bne_iff_ne.mpr c3
    obtain rfl := Option.some.inj H
    go_wp2
    go_ret
    exact ⟨by first | rfl | (simp [errW_none, errW_some] <;> rfl) | (simp [*, errW_none, errW_some] <;> rfl), by repeat (first | (with_reducible first | exact HB.out | apply uG | apply uA | apply uF | refine uB ?_ GE272.out | refine uB ?_ GE273.out) | exact HB.out)⟩
  rw [if_pos c3] at H
  have c3b0 : (a0_0 == a1_0) = true := beq_iff_eq.mpr c3
  have c3b1 : (a0_0 != a1_0) = false := bne_eq_false_iff_eq.mpr c3
  clear c3
  by_cases c4 : a0_1 = a1_1
  rotate_left
  · rw [if_neg c4] at H
    have c4b0 : (a0_1 == a1_1) = false := beq_eq_false_iff_ne.mpr c4
    have c4b1 : (a0_1 != a1_1) = true := bne_iff_ne.mpr c4
    obtain rfl := Option.some.inj H
    go_wp2
    go_ret
    exact ⟨by first | rfl | (simp [errW_none, errW_some] <;> rfl) | (simp [*, errW_none, errW_some] <;> rfl), by repeat (first | (with_reducible first | exact HB.out | apply uG | apply uA | apply uF | refine uB ?_ GE272.out | refine uB ?_ GE273.out) | exact HB.out)⟩
  rw [if_pos c4] at H
  have c4b0 : (a0_1 == a1_1) = true := beq_iff_eq.mpr c4
  have c4b1 : (a0_1 != a1_1) = false := bne_eq_false_iff_eq.mpr c4
  clear c4
  by_cases c5 : a0_2 = a1_2
  rotate_left
  · rw [if_neg c5] at H
    have c5b0 : (a0_2 == a1_2) = false := beq_eq_false_iff_ne.mpr c5
    have c5b1 : (a0_2 != a1_2) = true := bne_iff_ne.mpr c5
    obtain rfl := Option.some.inj H
    go_wp2
    go_ret
    exact ⟨by first | rfl | (simp [errW_none, errW_some] <;> rfl) | (simp [*, errW_none, errW_some] <;> rfl), by repeat (first | (with_reducible first | exact HB.out | apply uG | apply uA | apply uF | refine uB ?_ GE272.out | refine uB ?_ GE273.out) | exact HB.out)⟩
  rw [if_pos c5] at H
  have c5b0 : (a0_2 == a1_2) = true := beq_iff_eq.mpr c5
  have c5b1 : (a0_2 != a1_2) = false := bne_eq_false_iff_eq.mpr c5
  clear c5
  by_cases c6 : a0_3 = a1_3
  rotate_left
  · rw [if_neg c6] at H
    have c6b0 : (a0_3 == a1_3) = false := beq_eq_false_iff_ne.mpr c6
    have c6b1 : (a0_3 != a1_3) = true := bne_iff_ne.mpr c6
    obtain rfl := Option.some.inj H
    go_wp2
    go_ret
    exact ⟨by first | rfl | (simp [errW_none, errW_some] <;> rfl) | (simp [*, errW_none, errW_some] <;> rfl), by repeat (first | (with_reducible first | exact HB.out | apply uG | apply uA | apply uF | refine uB ?_ GE272.out | refine uB ?_ GE273.out) | exact HB.out)⟩
  rw [if_pos c6] at H
  have c6b0 : (a0_3 == a1_3) = true := beq_iff_eq.mpr c6
  have c6b1 : (a0_3 != a1_3) = false := bne_eq_false_iff_eq.mpr c6
  clear c6
  by_cases c7 : a0_4 = a1_4
  rotate_left
  · rw [if_neg c7] at H
    have c7b0 : (a0_4 == a1_4) = false := beq_eq_false_iff_ne.mpr c7
    have c7b1 : (a0_4 != a1_4) = true := bne_iff_ne.mpr c7
    obtain rfl := Option.some.inj H
    go_wp2
    go_ret
    exact ⟨by first | rfl | (simp [errW_none, errW_some] <;> rfl) | (simp [*, errW_none, errW_some] <;> rfl), by repeat (first | (with_reducible first | exact HB.out | apply uG | apply uA | apply uF | refine uB ?_ GE272.out | refine uB ?_ GE273.out) | exact HB.out)⟩
  rw [if_pos c7] at H
  have c7b0 : (a0_4 == a1_4) = true := beq_iff_eq.mpr c7
  have c7b1 : (a0_4 != a1_4) = false := bne_eq_false_iff_eq.mpr c7
  clear c7
  by_cases c8 : a0_5 = a1_5
  rotate_left
  · rw [if_neg c8] at H
    have c8b0 : (a0_5 == a1_5) = false := beq_eq_false_iff_ne.mpr c8
    have c8b1 : (a0_5 != a1_5) = true := bne_iff_ne.mpr c8
    obtain rfl := Option.some.inj H
    go_wp2
    go_ret
    exact ⟨by first | rfl | (simp [errW_none, errW_some] <;> rfl) | (simp [*, errW_none, errW_some] <;> rfl), by repeat (first | (with_reducible first | exact HB.out | apply uG | apply uA | apply uF | refine uB ?_ GE272.out | refine uB ?_ GE273.out) | exact HB.out)⟩
  rw [if_pos c8] at H
  have c8b0 : (a0_5 == a1_5) = true := beq_iff_eq.mpr c8
  have c8b1 : (a0_5 != a1_5) = false := bne_eq_false_iff_eq.mpr c8
  clear c8
  obtain rfl := Option.some.inj H
  go_wp2
  go_ret
  exact ⟨by first | rfl | (simp [errW_none, errW_some] <;> rfl) | (simp [*, errW_none, errW_some] <;> rfl), by repeat (first | (with_reducible first | exact HB.out | apply uG | apply uA | apply uF | refine uB ?_ GE272.out | refine uB ?_ GE273.out) | exact HB.out)⟩

/-! ### laws_eqEntry: function 69 -/
def laws_eqEntry.f (a0_0 : Int) (a0_1 : Int) (a0_2 : Int) (a0_3 : Int) (a0_4 : Int) (a0_5 : Int) (a0_6 : Int) (a1_0 : Int) (a1_1 : Int) (a1_2 : Int) (a1_3 : Int) (a1_4 : Int) (a1_5 : Int) (a1_6 : Int) : Option (Bool) := if a0_0 = a1_0 then ((laws_eqOp.f a0_1 a0_2 a0_3 a0_4 a0_5 a0_6 a1_1 a1_2 a1_3 a1_4 a1_5 a1_6).bind fun t276 => (if t276 = true then (some true) else (some false))) else (some false)
set_option maxHeartbeats 8000000 in
set_option maxRecDepth 100000 in
theorem laws_eqEntry.calls (a0_0 : Int) (a0_1 : Int) (a0_2 : Int) (a0_3 : Int) (a0_4 : Int) (a0_5 : Int) (a0_6 : Int) (a1_0 : Int) (a1_1 : Int) (a1_2 : Int) (a1_3 : Int) (a1_4 : Int) (a1_5 : Int) (a1_6 : Int) (r : Bool) (w : World) (h : laws_eqEntry.f a0_0 a0_1 a0_2 a0_3 a0_4 a0_5 a0_6 a1_0 a1_1 a1_2 a1_3 a1_4 a1_5 a1_6 = some r) :
    Calls Try.prog 69 #[.agg #[.int .i64 a0_0, .int .i64 a0_1, .int .i64 a0_2, .int .i64 a0_3, .int .i64 a0_4, .int .i64 a0_5, .int .i64 a0_6], .agg #[.int .i64 a1_0, .int .i64 a1_1, .int .i64 a1_2, .int .i64 a1_3, .int .i64 a1_4, .int .i64 a1_5, .int .i64 a1_6]] w fun e w' => e = .returned (.bool r) ∧ Below w.heap.size w w' := by
  have hu72 := Try.underlying72
  have hu37 := Try.underlying37
  have HB := Aside0.mk (Below.refl w.heap.size w)
  have H : (if a0_0 = a1_0 then ((laws_eqOp.f a0_1 a0_2 a0_3 a0_4 a0_5 a0_6 a1_1 a1_2 a1_3 a1_4 a1_5 a1_6).bind fun t276 => (if t276 = true then (some true) else (some false))) else (some false)) = some r := h
  clear h
  go_enter Try.func69, Try.ntmps69
  go_wp2_with (first | ((with_reducible refine uU (N := 2) rfl ?_); refine uT ?hg (N := 2) ?hd (cs := #[.int .i64 a0_0, .int .i64 a0_1, .int .i64 a0_2, .int .i64 a0_3, .int .i64 a0_4, .int .i64 a0_5, .int .i64 a0_6]) (t := 72) ?hr ?_; (case hd => rfl); (case hg => rfl); (case hr => first | (go_simp; done) | (go_simp; rfl)); intro gb274 hg w18 hbox hb; have n0_ := Aside0.mk (uS (by repeat (first | (with_reducible first | exact HB.out | apply uG | apply uA | apply uF) | exact HB.out)) hb); have n1_ := Aside0.mk (hbox); have n2_ := Aside0.mk ((by rw [hg]; exact (uQ (by repeat (first | (with_reducible first | exact HB.out | apply uG | apply uA | apply uF) | exact HB.out))) : w.heap.size ≤ gb274)); have n3_ := Aside0.mk ((by rw [hg]; exact (uQ (by repeat (first | (with_reducible first | exact HB.out | apply uG | apply uA | apply uF) | exact HB.out))) : w.heap.size ≤ gb274)); clear HB; have HB := n0_; have BK274 := n1_; have GW274 := n2_; have GE274 := n3_; clear n0_ n1_ n2_ n3_; clear hb hbox hg) | ((with_reducible refine uU (N := 3) rfl ?_); refine uT ?hg (N := 3) ?hd (cs := #[.int .i64 a1_0, .int .i64 a1_1, .int .i64 a1_2, .int .i64 a1_3, .int .i64 a1_4, .int .i64 a1_5, .int .i64 a1_6]) (t := 72) ?hr ?_; (case hd => rfl); (case hg => rfl); (case hr => first | (go_simp; done) | (go_simp; rfl)); intro gb275 hg w19 hbox hb; have n0_ := Aside0.mk (uR (g := gb274) (o := .cells #[.int .i64 a0_0, .int .i64 a0_1, .int .i64 a0_2, .int .i64 a0_3, .int .i64 a0_4, .int .i64 a0_5, .int .i64 a0_6] 72 (0, 0)) (by (with_reducible repeat (first | refine uC ?_ _ | refine uE ?_ | refine uD ?_ _)); exact BK274.out) hb); have n1_ := Aside0.mk (uS (by repeat (first | (with_reducible first | exact HB.out | apply uG | apply uA | apply uF | refine uB ?_ GE274.out) | exact HB.out)) hb); have n2_ := Aside0.mk (hbox); have n3_ := Aside0.mk ((by rw [hg]; exact (uQ (by repeat (first | (with_reducible first | exact HB.out | apply uG | apply uA | apply uF | refine uB ?_ GE274.out) | exact HB.out))) : w.heap.size ≤ gb275)); have n4_ := Aside0.mk ((by rw [hg]; exact (uQ (by repeat (first | (with_reducible first | exact HB.out | apply uG | apply uA | apply uF | refine uB ?_ GE274.out) | exact HB.out))) : w.heap.size ≤ gb275)); have n5_ := Aside0.mk ((by rw [hg]; exact Nat.ne_of_lt (uV (g := gb274) (o := .cells #[.int .i64 a0_0, .int .i64 a0_1, .int .i64 a0_2, .int .i64 a0_3, .int .i64 a0_4, .int .i64 a0_5, .int .i64 a0_6] 72 (0, 0)) (by (with_reducible repeat (first | refine uC ?_ _ | refine uE ?_ | refine uD ?_ _)); exact BK274.out)) : gb274 ≠ gb275)); have n6_ := Aside0.mk ((by rw [hg]; exact Nat.ne_of_gt (uV (g := gb274) (o := .cells #[.int .i64 a0_0, .int .i64 a0_1, .int .i64 a0_2, .int .i64 a0_3, .int .i64 a0_4, .int .i64 a0_5, .int .i64 a0_6] 72 (0, 0)) (by (with_reducible repeat (first | refine uC ?_ _ | refine uE ?_ | refine uD ?_ _)); exact BK274.out)) : gb275 ≠ gb274)); clear BK274; clear HB; have BK274 := n0_; have HB := n1_; have BK275 := n2_; have GW275 := n3_; have GE275 := n4_; have NB274_275 := n5_; have NB275_274 := n6_; clear n0_ n1_ n2_ n3_ n4_ n5_ n6_; clear hb hbox hg; have hnb20 := NB274_275.out; have hnc20 := NB275_274.out; have hcz21_0 : w19.cell? ⟨gb274, 0, none⟩ = some (.int .i64 a0_0) := (uI BK274.out 0).trans rfl; have hcz21_1 : w19.cell? ⟨gb274, 1, none⟩ = some (.int .i64 a0_1) := (uI BK274.out 1).trans rfl; have hcz21_2 : w19.cell? ⟨gb274, 2, none⟩ = some (.int .i64 a0_2) := (uI BK274.out 2).trans rfl; have hcz21_3 : w19.cell? ⟨gb274, 3, none⟩ = some (.int .i64 a0_3) := (uI BK274.out 3).trans rfl; have hcz21_4 : w19.cell? ⟨gb274, 4, none⟩ = some (.int .i64 a0_4) := (uI BK274.out 4).trans rfl; have hcz21_5 : w19.cell? ⟨gb274, 5, none⟩ = some (.int .i64 a0_5) := (uI BK274.out 5).trans rfl; have hcz21_6 : w19.cell? ⟨gb274, 6, none⟩ = some (.int .i64 a0_6) := (uI BK274.out 6).trans rfl; have hfz21_0 := uK BK274.out 0; have hfz21_1 := uK BK274.out 1; have hfz21_2 := uK BK274.out 2; have hfz21_3 := uK BK274.out 3; have hfz21_4 := uK BK274.out 4; have hfz21_5 := uK BK274.out 5; have hfz21_6 := uK BK274.out 6; have hcz22_0 : w19.cell? ⟨gb275, 0, none⟩ = some (.int .i64 a1_0) := (uI BK275.out 0).trans rfl; have hcz22_1 : w19.cell? ⟨gb275, 1, none⟩ = some (.int .i64 a1_1) := (uI BK275.out 1).trans rfl; have hcz22_2 : w19.cell? ⟨gb275, 2, none⟩ = some (.int .i64 a1_2) := (uI BK275.out 2).trans rfl; have hcz22_3 : w19.cell? ⟨gb275, 3, none⟩ = some (.int .i64 a1_3) := (uI BK275.out 3).trans rfl; have hcz22_4 : w19.cell? ⟨gb275, 4, none⟩ = some (.int .i64 a1_4) := (uI BK275.out 4).trans rfl; have hcz22_5 : w19.cell? ⟨gb275, 5, none⟩ = some (.int .i64 a1_5) := (uI BK275.out 5).trans rfl; have hcz22_6 : w19.cell? ⟨gb275, 6, none⟩ = some (.int .i64 a1_6) := (uI BK275.out 6).trans rfl; have hfz22_0 := uK BK275.out 0; have hfz22_1 := uK BK275.out 1; have hfz22_2 := uK BK275.out 2; have hfz22_3 := uK BK275.out 3; have hfz22_4 := uK BK275.out 4; have hfz22_5 := uK BK275.out 5; have hfz22_6 := uK BK275.out 6; refine ?roundEnd))
  case roundEnd =>
  by_cases c3 : a0_0 = a1_0
  rotate_left
  · rw [if_neg c3] at H
    have c3b0 : (a0_0 == a1_0) = false := beq_eq_false_iff_ne.mpr c3
    have c3b1 : (a0_0 != a1_0) = true := bne_iff_ne.mpr c3
    obtain rfl := Option.some.inj H
    go_wp2
    go_ret
    exact ⟨by first | rfl | (simp [errW_none, errW_some] <;> rfl) | (simp [*, errW_none, errW_some] <;> rfl), by repeat (first | (with_reducible first | exact HB.out | apply uG | apply uA | apply uF | refine uB ?_ GE274.out | refine uB ?_ GE275.out) | exact HB.out)⟩
  rw [if_pos c3] at H
  have c3b0 : (a0_0 == a1_0) = true := beq_iff_eq.mpr c3
  have c3b1 : (a0_0 != a1_0) = false := bne_eq_false_iff_eq.mpr c3
  clear c3
  replace H := Option.bind_eq_some_iff.mp H
  obtain ⟨t276, A40, H⟩ := H
  replace H : (if t276 = true then (some true) else (some false)) = some r := H
  have A4 := Aside0.mk A40
  clear A40
  by_cases c5 : t276 = true
  · subst c5
    have H1 : (some true) = some r := by first | (rw [if_pos rfl] at H; exact H) | rfl
    clear H
    have H := H1
    clear H1
    obtain rfl := Option.some.inj H
    go_wp2_with (first | ((with_reducible refine uX (f := 87) rfl ?_); refine vM (some 14) rfl rfl Try.func87 (by kernel_rfl) rfl #[.agg #[.int .i64 a0_1, .int .i64 a0_2, .int .i64 a0_3, .int .i64 a0_4, .int .i64 a0_5, .int .i64 a0_6], .agg #[.int .i64 a1_1, .int .i64 a1_2, .int .i64 a1_3, .int .i64 a1_4, .int .i64 a1_5, .int .i64 a1_6]] rfl (by (try simp only [vX, List.map_cons, List.map_nil]); first | done | rfl | (simp only [vZ, vY]; rfl)) ?_; (with_reducible refine (laws_eqOp.calls a0_1 a0_2 a0_3 a0_4 a0_5 a0_6 a1_1 a1_2 a1_3 a1_4 a1_5 a1_6 true _ A4.out).mono ?_); rintro e w11 ⟨rfl, hb⟩; refine ⟨_, rfl, ?_⟩; have n0_ := Aside0.mk (uR (g := gb274) (o := .cells #[.int .i64 a0_0, .int .i64 a0_1, .int .i64 a0_2, .int .i64 a0_3, .int .i64 a0_4, .int .i64 a0_5, .int .i64 a0_6] 72 (0, 0)) (by (with_reducible repeat (first | refine uC ?_ _ | refine uE ?_ | refine uD ?_ _)); exact BK274.out) hb); have n1_ := Aside0.mk (uR (g := gb275) (o := .cells #[.int .i64 a1_0, .int .i64 a1_1, .int .i64 a1_2, .int .i64 a1_3, .int .i64 a1_4, .int .i64 a1_5, .int .i64 a1_6] 72 (0, 0)) (by (with_reducible repeat (first | refine uC ?_ _ | refine uE ?_ | refine uD ?_ _)); exact BK275.out) hb); have n2_ := Aside0.mk (uS (by repeat (first | (with_reducible first | exact HB.out | apply uG | apply uA | apply uF | refine uB ?_ GE274.out | refine uB ?_ GE275.out) | exact HB.out)) hb); clear BK274; clear BK275; clear HB; have BK274 := n0_; have BK275 := n1_; have HB := n2_; clear n0_ n1_ n2_; (try clear hb); (try clear hb2); (try clear hk); (try clear hi)))
    go_ret
    exact ⟨by first | rfl | (simp [errW_none, errW_some] <;> rfl) | (simp [*, errW_none, errW_some] <;> rfl), by repeat (first | (with_reducible first | exact HB.out | apply uG | apply uA | apply uF | refine uB ?_ GE274.out | refine uB ?_ GE275.out) | exact HB.out)⟩
  replace c5 := Bool.eq_false_iff.mpr c5
  subst c5
  have H1 : (some false) = some r := by first | (rw [if_neg (show ¬ (false = true) by decide)] at H; exact H) | rfl
  clear H
  have H := H1
  clear H1
  obtain rfl := Option.some.inj H
  go_wp2_with (first | ((with_reducible refine uX (f := 87) rfl ?_); refine vM (some 14) rfl rfl Try.func87 (by kernel_rfl) rfl #[.agg #[.int .i64 a0_1, .int .i64 a0_2, .int .i64 a0_3, .int .i64 a0_4, .int .i64 a0_5, .int .i64 a0_6], .agg #[.int .i64 a1_1, .int .i64 a1_2, .int .i64 a1_3, .int .i64 a1_4, .int .i64 a1_5, .int .i64 a1_6]] rfl (by (try simp only [vX, List.map_cons, List.map_nil]); first | done | rfl | (simp only [vZ, vY]; rfl)) ?_; (with_reducible refine (laws_eqOp.calls a0_1 a0_2 a0_3 a0_4 a0_5 a0_6 a1_1 a1_2 a1_3 a1_4 a1_5 a1_6 false _ A4.out).mono ?_); rintro e w17 ⟨rfl, hb⟩; refine ⟨_, rfl, ?_⟩; have n0_ := Aside0.mk (uR (g := gb274) (o := .cells #[.int .i64 a0_0, .int .i64 a0_1, .int .i64 a0_2, .int .i64 a0_3, .int .i64 a0_4, .int .i64 a0_5, .int .i64 a0_6] 72 (0, 0)) (by (with_reducible repeat (first | refine uC ?_ _ | refine uE ?_ | refine uD ?_ _)); exact BK274.out) hb); have n1_ := Aside0.mk (uR (g := gb275) (o := .cells #[.int .i64 a1_0, .int .i64 a1_1, .int .i64 a1_2, .int .i64 a1_3, .int .i64 a1_4, .int .i64 a1_5, .int .i64 a1_6] 72 (0, 0)) (by (with_reducible repeat (first | refine uC ?_ _ | refine uE ?_ | refine uD ?_ _)); exact BK275.out) hb); have n2_ := Aside0.mk (uS (by repeat (first | (with_reducible first | exact HB.out | apply uG | apply uA | apply uF | refine uB ?_ GE274.out | refine uB ?_ GE275.out) | exact HB.out)) hb); clear BK274; clear BK275; clear HB; have BK274 := n0_; have BK275 := n1_; have HB := n2_; clear n0_ n1_ n2_; (try clear hb); (try clear hb2); (try clear hk); (try clear hi)))
  go_ret
  exact ⟨by first | rfl | (simp [errW_none, errW_some] <;> rfl) | (simp [*, errW_none, errW_some] <;> rfl), by repeat (first | (with_reducible first | exact HB.out | apply uG | apply uA | apply uF | refine uB ?_ GE274.out | refine uB ?_ GE275.out) | exact HB.out)⟩

/-! ### laws_eqEntryS: function 29 -/
def laws_eqEntryS.l0 : Nat → List (S72) → List (S72) → Int → Option (Bool)
  | 0, _, _, _ => none
  | k + 1, x0, x1, x5 => if x5 < (x0.length : Int) then (if 0 ≤ x5 then (if x5 < (x1.length : Int) then ((laws_eqEntry.f ((rd_T72 x0 x5).f0) ((rd_T72 x0 x5).f1.f0) ((rd_T72 x0 x5).f1.f1) ((rd_T72 x0 x5).f1.f2) ((rd_T72 x0 x5).f1.f3) ((rd_T72 x0 x5).f1.f4) ((rd_T72 x0 x5).f1.f5) ((rd_T72 x1 x5).f0) ((rd_T72 x1 x5).f1.f0) ((rd_T72 x1 x5).f1.f1) ((rd_T72 x1 x5).f1.f2) ((rd_T72 x1 x5).f1.f3) ((rd_T72 x1 x5).f1.f4) ((rd_T72 x1 x5).f1.f5)).bind fun t279 => (if t279 = true then (laws_eqEntryS.l0 k x0 x1 (wrap64 (x5 + 1))) else (some false))) else (none)) else (none)) else (some true)
def laws_eqEntryS.f (k : Nat) (l0 : List (S72)) (l1 : List (S72)) : Option (Bool) := if (l0.length : Int) = (l1.length : Int) then (laws_eqEntryS.l0 k l0 l1 0) else (some false)
theorem laws_eqEntryS.mono_l : ∀ k, (∀ y0 y1 y2, vB (laws_eqEntryS.l0 k y0 y1 y2) (laws_eqEntryS.l0 (k + 1) y0 y1 y2))
  | 0 => fun _ _ _ r h => by simp [laws_eqEntryS.l0] at h
  | k + 1 => by
    have ih0 := laws_eqEntryS.mono_l k
    intro y0 y1 y2
    unfold laws_eqEntryS.l0
    repeat' first
    | (with_reducible exact ih0 _ _ _)
    | (with_reducible exact vB.refl _)
    | (with_reducible exact vB.none _)
    | (with_reducible refine vB.ite ?_ ?_)
    | (with_reducible refine vB.bind ?_ (fun _ => ?_))
    | exact ih0 _ _ _
    | exact vB.none _
    | refine vB.ite ?_ ?_
    | refine vB.bind ?_ (fun _ => ?_)
theorem laws_eqEntryS.mono : ∀ a0 a1 k, vB (laws_eqEntryS.f k a0 a1) (laws_eqEntryS.f (k + 1) a0 a1) := by
  intro a0 a1 k
  have ih0 := laws_eqEntryS.mono_l k
  unfold laws_eqEntryS.f
  repeat' first
      | (with_reducible exact ih0 _ _ _)
      | (with_reducible exact vB.refl _)
      | (with_reducible exact vB.none _)
      | (with_reducible refine vB.ite ?_ ?_)
      | (with_reducible refine vB.bind ?_ (fun _ => ?_))
      | exact ih0 _ _ _
      | exact vB.none _
      | refine vB.ite ?_ ?_
      | refine vB.bind ?_ (fun _ => ?_)
def laws_eqEntryS.T6 : Bool × List (List Nat × List Nat) := (true, [([], []), ([], []), ([0, 1], [0, 1]), ([2], [2]), ([], []), ([], []), ([4, 5], [4, 5]), ([6], [6]), ([3, 7], [3, 7]), ([8], [8])])
def laws_eqEntryS.B6 : List Nat := [0, 0, 3, 7, 0, 0, 48, 112, 255, 511]
theorem laws_eqEntryS.tab6 : rtab .any (opsOf Try.f29 6) = laws_eqEntryS.T6 := by kernel_rfl
theorem laws_eqEntryS.bits6 : waitsOk laws_eqEntryS.T6.2 laws_eqEntryS.B6 = true := by kernel_rfl
set_option maxHeartbeats 8000000 in
set_option maxRecDepth 100000 in
theorem laws_eqEntryS.calls (k : Nat) (A0 : Option Addr) (c0 : Nat) (l0 : List (S72)) (A1 : Option Addr) (c1 : Nat) (l1 : List (S72)) (r : Bool) (w : World) (hr0 : Kd.C k72 w A0 l0.length l0) (hc0 : l0.length ≤ c0) (hr1 : Kd.C k72 w A1 l1.length l1) (hc1 : l1.length ≤ c1) (h : laws_eqEntryS.f k l0 l1 = some r) :
    Calls Try.prog 29 #[.slice A0 l0.length c0, .slice A1 l1.length c1] w fun e w' => e = .returned (.bool r) ∧ Below w.heap.size w w' := by
  have hu72 := Try.underlying72
  have HR0 := Aside0.mk hr0
  have HC0 := Aside0.mk hc0
  clear hr0 hc0
  have HR1 := Aside0.mk hr1
  have HC1 := Aside0.mk hc1
  clear hr1 hc1
  have HB := Aside0.mk (Below.refl w.heap.size w)
  have H : (if (l0.length : Int) = (l1.length : Int) then (laws_eqEntryS.l0 k l0 l1 0) else (some false)) = some r := h
  clear h
  by_cases c3 : (l0.length : Int) = (l1.length : Int)
  rotate_left
  · rw [if_neg c3] at H
    have c3b0 : ((l0.length : Int) == (l1.length : Int)) = false := beq_eq_false_iff_ne.mpr c3
    have c3b1 : ((l0.length : Int) != (l1.length : Int)) = true := bne_iff_ne.mpr c3
    have c3b2 : (l0.length == l1.length) = false := by first | simpa using c3 | (simp at c3 ⊢; omega)
    obtain rfl := Option.some.inj H
    go_enter Try.func29, Try.ntmps29
    go_wp2
    go_ret
    exact ⟨by first | rfl | (simp [errW_none, errW_some] <;> rfl) | (simp [*, errW_none, errW_some] <;> rfl), by repeat (first | (with_reducible first | exact HB.out | apply uG | apply uA | apply uF) | exact HB.out)⟩
  rw [if_pos c3] at H
  have c3b0 : ((l0.length : Int) == (l1.length : Int)) = true := beq_iff_eq.mpr c3
  have c3b1 : ((l0.length : Int) != (l1.length : Int)) = false := bne_eq_false_iff_eq.mpr c3
  have c3b2 : (l0.length == l1.length) = true := by first | simpa using c3 | (simp at c3 ⊢; omega)
  clear c3
  have H' := Aside0.mk H
  clear H
  go_enter Try.func29, Try.ntmps29
  go_wp2
  go_loopg [5] k (fun kq v5 w' => ∃ (x5_1 : Int), v5 = .int .i64 x5_1 ∧ Aside0 (laws_eqEntryS.l0 kq l0 l1 x5_1 = some r) ∧ Aside0 (kq ≤ k) ∧ Aside0 (Below w.heap.size w w'))
  case atStart => exact ⟨(0), (by first | rfl | (simp; done) | (simp [*]; done)), H', ⟨Nat.le_refl _⟩, ⟨by repeat (first | (with_reducible first | exact HB.out | apply uG | apply uA | apply uF) | exact HB.out)⟩⟩
  case round =>
    clear H'
    try clear c1
    try clear c2
    try clear p2
    try clear c3
    try clear c3b0
    try clear c3b1
    try clear c3b2
    obtain ⟨x5_1, rfl, HA, HK1, HB⟩ := hrel
    cases gk with
    | zero => exact absurd HA.out (by simp [laws_eqEntryS.l0])
    | succ k1 =>
      have H := HA.out
      clear HA
      simp only [laws_eqEntryS.l0] at H
      by_cases c4 : x5_1 < (l0.length : Int)
      rotate_left
      · rw [if_neg c4] at H
        have c4b0 : decide (x5_1 < (l0.length : Int)) = false := decide_eq_false c4
        clear c4
        obtain rfl := Option.some.inj H
        go_wp2
        go_ret
        exact ⟨by first | rfl | (simp [errW_none, errW_some] <;> rfl) | (simp [*, errW_none, errW_some] <;> rfl), by repeat (first | (with_reducible first | exact HB.out | apply uG | apply uA | apply uF) | exact HB.out)⟩
      rw [if_pos c4] at H
      have c4b0 : decide (x5_1 < (l0.length : Int)) = true := decide_eq_true c4
      clear c4
      by_cases c5 : 0 ≤ x5_1
      rotate_left
      · rw [if_neg c5] at H
        exact absurd H (by simp)
      rw [if_pos c5] at H
      have c5b0 : decide (0 ≤ x5_1) = true := decide_eq_true c5
      clear c5
      by_cases c6 : x5_1 < (l1.length : Int)
      rotate_left
      · rw [if_neg c6] at H
        exact absurd H (by simp)
      rw [if_pos c6] at H
      have c6b0 : decide (x5_1 < (l1.length : Int)) = true := decide_eq_true c6
      clear c6
      replace H := Option.bind_eq_some_iff.mp H
      obtain ⟨t279, A70, H⟩ := H
      replace H : (if t279 = true then (laws_eqEntryS.l0 k1 l0 l1 (wrap64 (x5_1 + 1))) else (some false)) = some r := H
      have A7 := Aside0.mk A70
      clear A70
      by_cases c8 : t279 = true
      rotate_left
      · replace c8 := Bool.eq_false_iff.mpr c8
        subst c8
        have H1 : (some false) = some r := by first | (rw [if_neg (show ¬ (false = true) by decide)] at H; exact H) | rfl
        clear H
        have H := H1
        clear H1
        obtain rfl := Option.some.inj H
        try go_wp2
        have n0_ := Aside0.mk (uF HB.out)
        clear HB
        have HB := n0_
        clear n0_
        have p277 : 0 ≤ (x5_1 : Int) := of_decide_eq_true (by first | (with_reducible assumption) | assumption)
        have q277 : x5_1 < (l0.length : Int) := of_decide_eq_true (by first | (with_reducible assumption) | assumption)
        obtain ⟨ad277, e277, hx277_0, hx277_1, hx277_2, hx277_3, hx277_4, hx277_5, hx277_6⟩ := at_T72 HR0.out x5_1 p277 q277
        have hw277_6 := hx277_6
        have hw277_5 := hx277_5
        have hw277_4 := hx277_4
        have hw277_3 := hx277_3
        have hw277_2 := hx277_2
        have hw277_1 := hx277_1
        have hw277_0 := hx277_0
        cases e277
        replace hx277_0 := (HB.out.cell (yA w _ hx277_0)).trans hx277_0
        replace hx277_1 := (HB.out.cell (yA w _ hx277_1)).trans hx277_1
        replace hx277_2 := (HB.out.cell (yA w _ hx277_2)).trans hx277_2
        replace hx277_3 := (HB.out.cell (yA w _ hx277_3)).trans hx277_3
        replace hx277_4 := (HB.out.cell (yA w _ hx277_4)).trans hx277_4
        replace hx277_5 := (HB.out.cell (yA w _ hx277_5)).trans hx277_5
        replace hx277_6 := (HB.out.cell (yA w _ hx277_6)).trans hx277_6
        replace p277 := eq_true p277
        replace q277 := eq_true q277
        have p278 : 0 ≤ (x5_1 : Int) := of_decide_eq_true (by first | (with_reducible assumption) | assumption)
        have q278 : x5_1 < (l1.length : Int) := of_decide_eq_true (by first | (with_reducible assumption) | assumption)
        obtain ⟨ad278, e278, hx278_0, hx278_1, hx278_2, hx278_3, hx278_4, hx278_5, hx278_6⟩ := at_T72 HR1.out x5_1 p278 q278
        have hw278_6 := hx278_6
        have hw278_5 := hx278_5
        have hw278_4 := hx278_4
        have hw278_3 := hx278_3
        have hw278_2 := hx278_2
        have hw278_1 := hx278_1
        have hw278_0 := hx278_0
        cases e278
        replace hx278_0 := (HB.out.cell (yA w _ hx278_0)).trans hx278_0
        replace hx278_1 := (HB.out.cell (yA w _ hx278_1)).trans hx278_1
        replace hx278_2 := (HB.out.cell (yA w _ hx278_2)).trans hx278_2
        replace hx278_3 := (HB.out.cell (yA w _ hx278_3)).trans hx278_3
        replace hx278_4 := (HB.out.cell (yA w _ hx278_4)).trans hx278_4
        replace hx278_5 := (HB.out.cell (yA w _ hx278_5)).trans hx278_5
        replace hx278_6 := (HB.out.cell (yA w _ hx278_6)).trans hx278_6
        replace p278 := eq_true p278
        replace q278 := eq_true q278
        refine start_ (n := 10) (S := fun w' => w'.cell? (ad277.add ((x5_1).toNat * 7)) = some (.int .i64 ((rd_T72 l0 x5_1).f0)) ∧ w'.cell? ⟨(ad277.add ((x5_1).toNat * 7)).block, (ad277.add ((x5_1).toNat * 7)).off + 1, none⟩ = some (.int .i64 ((rd_T72 l0 x5_1).f1.f0)) ∧ w'.cell? ⟨(ad277.add ((x5_1).toNat * 7)).block, (ad277.add ((x5_1).toNat * 7)).off + 2, none⟩ = some (.int .i64 ((rd_T72 l0 x5_1).f1.f1)) ∧ w'.cell? ⟨(ad277.add ((x5_1).toNat * 7)).block, (ad277.add ((x5_1).toNat * 7)).off + 3, none⟩ = some (.int .i64 ((rd_T72 l0 x5_1).f1.f2)) ∧ w'.cell? ⟨(ad277.add ((x5_1).toNat * 7)).block, (ad277.add ((x5_1).toNat * 7)).off + 4, none⟩ = some (.int .i64 ((rd_T72 l0 x5_1).f1.f3)) ∧ w'.cell? ⟨(ad277.add ((x5_1).toNat * 7)).block, (ad277.add ((x5_1).toNat * 7)).off + 5, none⟩ = some (.int .i64 ((rd_T72 l0 x5_1).f1.f4)) ∧ w'.cell? ⟨(ad277.add ((x5_1).toNat * 7)).block, (ad277.add ((x5_1).toNat * 7)).off + 6, none⟩ = some (.int .i64 ((rd_T72 l0 x5_1).f1.f5)) ∧ w'.cell? (ad278.add ((x5_1).toNat * 7)) = some (.int .i64 ((rd_T72 l1 x5_1).f0)) ∧ w'.cell? ⟨(ad278.add ((x5_1).toNat * 7)).block, (ad278.add ((x5_1).toNat * 7)).off + 1, none⟩ = some (.int .i64 ((rd_T72 l1 x5_1).f1.f0)) ∧ w'.cell? ⟨(ad278.add ((x5_1).toNat * 7)).block, (ad278.add ((x5_1).toNat * 7)).off + 2, none⟩ = some (.int .i64 ((rd_T72 l1 x5_1).f1.f1)) ∧ w'.cell? ⟨(ad278.add ((x5_1).toNat * 7)).block, (ad278.add ((x5_1).toNat * 7)).off + 3, none⟩ = some (.int .i64 ((rd_T72 l1 x5_1).f1.f2)) ∧ w'.cell? ⟨(ad278.add ((x5_1).toNat * 7)).block, (ad278.add ((x5_1).toNat * 7)).off + 4, none⟩ = some (.int .i64 ((rd_T72 l1 x5_1).f1.f3)) ∧ w'.cell? ⟨(ad278.add ((x5_1).toNat * 7)).block, (ad278.add ((x5_1).toNat * 7)).off + 5, none⟩ = some (.int .i64 ((rd_T72 l1 x5_1).f1.f4)) ∧ w'.cell? ⟨(ad278.add ((x5_1).toNat * 7)).block, (ad278.add ((x5_1).toNat * 7)).off + 6, none⟩ = some (.int .i64 ((rd_T72 l1 x5_1).f1.f5))) (ds := []) tb18 (by kernel_rfl) rfl rfl ⟨((HB.out.cell (yA w _ hw277_0)).trans hw277_0), ((HB.out.cell (yA w _ hw277_1)).trans hw277_1), ((HB.out.cell (yA w _ hw277_2)).trans hw277_2), ((HB.out.cell (yA w _ hw277_3)).trans hw277_3), ((HB.out.cell (yA w _ hw277_4)).trans hw277_4), ((HB.out.cell (yA w _ hw277_5)).trans hw277_5), ((HB.out.cell (yA w _ hw277_6)).trans hw277_6), ((HB.out.cell (yA w _ hw278_0)).trans hw278_0), ((HB.out.cell (yA w _ hw278_1)).trans hw278_1), ((HB.out.cell (yA w _ hw278_2)).trans hw278_2), ((HB.out.cell (yA w _ hw278_3)).trans hw278_3), ((HB.out.cell (yA w _ hw278_4)).trans hw278_4), ((HB.out.cell (yA w _ hw278_5)).trans hw278_5), ((HB.out.cell (yA w _ hw278_6)).trans hw278_6)⟩ (fun hHeld => ?_); refine with_tabW laws_eqEntryS.tab6 laws_eqEntryS.bits6 (fun HT_ HW_ => ?_)
        generalize wr.drew = w11 at HB hx277_0 hx277_1 hx277_2 hx277_3 hx277_4 hx277_5 hx277_6 hx278_0 hx278_1 hx278_2 hx278_3 hx278_4 hx278_5 hx278_6 hHeld ⊢
        refine uJ (i := 0) (N := some 17) (v := ?_) (a' := ?_) tb41 rfl rfl (vL HT_.out (by kernel_rfl)) (fun _ _ _ h => h) (Or.inl ⟨by rfl, ?_⟩) ?_ ?_
        rotate_left
        · intro w'
          go_simp
          with_reducible rfl
        rotate_left
        · simp only [Act.put, vU, vV, vW, uL, uM]
          rfl
        refine uJ (i := 1) (N := some 18) (v := ?_) (a' := ?_) tb42 rfl rfl (vL HT_.out (by kernel_rfl)) (fun _ _ _ h => h) (Or.inl ⟨by rfl, ?_⟩) ?_ ?_
        rotate_left
        · intro w'
          go_simp
          with_reducible rfl
        rotate_left
        · simp only [Act.put, vU, vV, vW, uL, uM]
          rfl
        refine uJ (i := 2) (N := some 19) (v := ?_) (a' := ?_) tb43 rfl rfl (vL HT_.out (by kernel_rfl)) (fun _ _ _ h => h) (Or.inl ⟨by rfl, ?_⟩) ?_ ?_
        rotate_left
        · intro w'
          go_simp
          with_reducible rfl
        rotate_left
        · simp only [Act.put, vU, vV, vW, uL, uM]
          rfl
        refine uJ (i := 4) (N := some 21) (v := ?_) (a' := ?_) tb44 rfl rfl (vL HT_.out (by kernel_rfl)) (fun _ _ _ h => h) (Or.inl ⟨by rfl, ?_⟩) ?_ ?_
        rotate_left
        · intro w'
          go_simp
          with_reducible rfl
        rotate_left
        · simp only [Act.put, vU, vV, vW, uL, uM]
          rfl
        refine uJ (i := 5) (N := some 22) (v := ?_) (a' := ?_) tb45 rfl rfl (vL HT_.out (by kernel_rfl)) (fun _ _ _ h => h) (Or.inl ⟨by rfl, ?_⟩) ?_ ?_
        rotate_left
        · intro w'
          go_simp
          with_reducible rfl
        rotate_left
        · simp only [Act.put, vU, vV, vW, uL, uM]
          rfl
        refine uJ (i := 6) (N := some 23) (v := ?_) (a' := ?_) tb9 rfl rfl (vL HT_.out (by kernel_rfl)) (fun _ _ _ h => h) (Or.inl ⟨by rfl, ?_⟩) ?_ ?_
        rotate_left
        · intro w'
          go_simp
          with_reducible rfl
        rotate_left
        · simp only [Act.put, vU, vV, vW, uL, uM]
          rfl
        refine take_ (i := 3) (N := some 20) (v := ?_) (a' := ?_) tb8 rfl rfl (take_ofW HT_.out HW_.out (by kernel_rfl)) (fun _ _ _ h => h) (Or.inl ⟨by rfl, ?_⟩) hHeld ?_ ?_
        rotate_left
        · rintro w' ⟨s0, s1, s2, s3, s4, s5, s6, s7, s8, s9, s10, s11, s12, s13⟩
          go_simp
          with_reducible rfl
        rotate_left
        · simp only [Act.put, vU, vV, vW, uL, uM]
          rfl
        refine take_ (i := 7) (N := some 24) (v := ?_) (a' := ?_) tb38 rfl rfl (take_ofW HT_.out HW_.out (by kernel_rfl)) (fun _ _ _ h => h) (Or.inl ⟨by rfl, ?_⟩) hHeld ?_ ?_
        rotate_left
        · rintro w' ⟨s0, s1, s2, s3, s4, s5, s6, s7, s8, s9, s10, s11, s12, s13⟩
          go_simp
          with_reducible rfl
        rotate_left
        · simp only [Act.put, vU, vV, vW, uL, uM]
          rfl
        refine one_ (i := 8) (N := some 25) tb39 rfl rfl (one_of HT_.out (by kernel_rfl)) (by decide) (fun K hK => ?_)
        refine goes_ Try.func69 (by kernel_rfl) rfl #[.agg #[.int .i64 ((rd_T72 l0 x5_1).f0), .int .i64 ((rd_T72 l0 x5_1).f1.f0), .int .i64 ((rd_T72 l0 x5_1).f1.f1), .int .i64 ((rd_T72 l0 x5_1).f1.f2), .int .i64 ((rd_T72 l0 x5_1).f1.f3), .int .i64 ((rd_T72 l0 x5_1).f1.f4), .int .i64 ((rd_T72 l0 x5_1).f1.f5)], .agg #[.int .i64 ((rd_T72 l1 x5_1).f0), .int .i64 ((rd_T72 l1 x5_1).f1.f0), .int .i64 ((rd_T72 l1 x5_1).f1.f1), .int .i64 ((rd_T72 l1 x5_1).f1.f2), .int .i64 ((rd_T72 l1 x5_1).f1.f3), .int .i64 ((rd_T72 l1 x5_1).f1.f4), .int .i64 ((rd_T72 l1 x5_1).f1.f5)]] (by rfl) rfl rfl (by (try simp only [vX, List.map_cons, List.map_nil]); first | done | rfl | (simp only [vZ, vY]; rfl)) ?_
        with_reducible refine (laws_eqEntry.calls ((rd_T72 l0 x5_1).f0) ((rd_T72 l0 x5_1).f1.f0) ((rd_T72 l0 x5_1).f1.f1) ((rd_T72 l0 x5_1).f1.f2) ((rd_T72 l0 x5_1).f1.f3) ((rd_T72 l0 x5_1).f1.f4) ((rd_T72 l0 x5_1).f1.f5) ((rd_T72 l1 x5_1).f0) ((rd_T72 l1 x5_1).f1.f0) ((rd_T72 l1 x5_1).f1.f1) ((rd_T72 l1 x5_1).f1.f2) ((rd_T72 l1 x5_1).f1.f3) ((rd_T72 l1 x5_1).f1.f4) ((rd_T72 l1 x5_1).f1.f5) false _ A7.out).mono ?_
        rintro e w12 ⟨rfl, hb⟩
        refine ⟨_, rfl, ?_⟩
        have n0_ := Aside0.mk (uS (by repeat (first | (with_reducible first | exact HB.out | apply uG | apply uA | apply uF) | exact HB.out)) hb)
        clear HB
        have HB := n0_
        clear n0_
        (try clear hb)
        (try clear hb2)
        (try clear hk)
        (try clear hi)
        refine hK.out _ _ ⟨((HB.out.cell (yA w _ hw277_0)).trans hw277_0), ((HB.out.cell (yA w _ hw277_1)).trans hw277_1), ((HB.out.cell (yA w _ hw277_2)).trans hw277_2), ((HB.out.cell (yA w _ hw277_3)).trans hw277_3), ((HB.out.cell (yA w _ hw277_4)).trans hw277_4), ((HB.out.cell (yA w _ hw277_5)).trans hw277_5), ((HB.out.cell (yA w _ hw277_6)).trans hw277_6), ((HB.out.cell (yA w _ hw278_0)).trans hw278_0), ((HB.out.cell (yA w _ hw278_1)).trans hw278_1), ((HB.out.cell (yA w _ hw278_2)).trans hw278_2), ((HB.out.cell (yA w _ hw278_3)).trans hw278_3), ((HB.out.cell (yA w _ hw278_4)).trans hw278_4), ((HB.out.cell (yA w _ hw278_5)).trans hw278_5), ((HB.out.cell (yA w _ hw278_6)).trans hw278_6)⟩ (fun hHeld => ?_)
        clear hK K
        refine vC (a' := ?_) ?_ ?_
        rotate_left
        · show Act.put _ (some 25) _ = _
          simp only [Act.put, vU, vV, vW, uL, uM]
          rfl
        refine uJ (i := 9) (N := some 26) (v := ?_) (a' := ?_) tb40 rfl rfl (vL HT_.out (by kernel_rfl)) (fun _ _ _ h => h) (Or.inl ⟨by rfl, ?_⟩) ?_ ?_
        rotate_left
        · intro w'
          go_simp
          with_reducible rfl
        rotate_left
        · simp only [Act.put, vU, vV, vW, uL, uM]
          rfl
        refine done_ (done_of HT_.out (by kernel_rfl)) ?_
        try go_wp2
        go_ret
        exact ⟨by first | rfl | (simp [errW_none, errW_some] <;> rfl) | (simp [*, errW_none, errW_some] <;> rfl), by repeat (first | (with_reducible first | exact HB.out | apply uG | apply uA | apply uF) | exact HB.out)⟩
      subst c8
      have H1 : (laws_eqEntryS.l0 k1 l0 l1 (wrap64 (x5_1 + 1))) = some r := by first | (rw [if_pos rfl] at H; exact H) | rfl
      clear H
      have H := H1
      clear H1
      have H' := Aside0.mk H
      clear H
      try go_wp2
      have n0_ := Aside0.mk (uF HB.out)
      clear HB
      have HB := n0_
      clear n0_
      have p277 : 0 ≤ (x5_1 : Int) := of_decide_eq_true (by first | (with_reducible assumption) | assumption)
      have q277 : x5_1 < (l0.length : Int) := of_decide_eq_true (by first | (with_reducible assumption) | assumption)
      obtain ⟨ad277, e277, hx277_0, hx277_1, hx277_2, hx277_3, hx277_4, hx277_5, hx277_6⟩ := at_T72 HR0.out x5_1 p277 q277
      have hw277_6 := hx277_6
      have hw277_5 := hx277_5
      have hw277_4 := hx277_4
      have hw277_3 := hx277_3
      have hw277_2 := hx277_2
      have hw277_1 := hx277_1
      have hw277_0 := hx277_0
      cases e277
      replace hx277_0 := (HB.out.cell (yA w _ hx277_0)).trans hx277_0
      replace hx277_1 := (HB.out.cell (yA w _ hx277_1)).trans hx277_1
      replace hx277_2 := (HB.out.cell (yA w _ hx277_2)).trans hx277_2
      replace hx277_3 := (HB.out.cell (yA w _ hx277_3)).trans hx277_3
      replace hx277_4 := (HB.out.cell (yA w _ hx277_4)).trans hx277_4
      replace hx277_5 := (HB.out.cell (yA w _ hx277_5)).trans hx277_5
      replace hx277_6 := (HB.out.cell (yA w _ hx277_6)).trans hx277_6
      replace p277 := eq_true p277
      replace q277 := eq_true q277
      have p278 : 0 ≤ (x5_1 : Int) := of_decide_eq_true (by first | (with_reducible assumption) | assumption)
      have q278 : x5_1 < (l1.length : Int) := of_decide_eq_true (by first | (with_reducible assumption) | assumption)
      obtain ⟨ad278, e278, hx278_0, hx278_1, hx278_2, hx278_3, hx278_4, hx278_5, hx278_6⟩ := at_T72 HR1.out x5_1 p278 q278
      have hw278_6 := hx278_6
      have hw278_5 := hx278_5
      have hw278_4 := hx278_4
      have hw278_3 := hx278_3
      have hw278_2 := hx278_2
      have hw278_1 := hx278_1
      have hw278_0 := hx278_0
      cases e278
      replace hx278_0 := (HB.out.cell (yA w _ hx278_0)).trans hx278_0
      replace hx278_1 := (HB.out.cell (yA w _ hx278_1)).trans hx278_1
      replace hx278_2 := (HB.out.cell (yA w _ hx278_2)).trans hx278_2
      replace hx278_3 := (HB.out.cell (yA w _ hx278_3)).trans hx278_3
      replace hx278_4 := (HB.out.cell (yA w _ hx278_4)).trans hx278_4
      replace hx278_5 := (HB.out.cell (yA w _ hx278_5)).trans hx278_5
      replace hx278_6 := (HB.out.cell (yA w _ hx278_6)).trans hx278_6
      replace p278 := eq_true p278
      replace q278 := eq_true q278
      refine start_ (n := 10) (S := fun w' => w'.cell? (ad277.add ((x5_1).toNat * 7)) = some (.int .i64 ((rd_T72 l0 x5_1).f0)) ∧ w'.cell? ⟨(ad277.add ((x5_1).toNat * 7)).block, (ad277.add ((x5_1).toNat * 7)).off + 1, none⟩ = some (.int .i64 ((rd_T72 l0 x5_1).f1.f0)) ∧ w'.cell? ⟨(ad277.add ((x5_1).toNat * 7)).block, (ad277.add ((x5_1).toNat * 7)).off + 2, none⟩ = some (.int .i64 ((rd_T72 l0 x5_1).f1.f1)) ∧ w'.cell? ⟨(ad277.add ((x5_1).toNat * 7)).block, (ad277.add ((x5_1).toNat * 7)).off + 3, none⟩ = some (.int .i64 ((rd_T72 l0 x5_1).f1.f2)) ∧ w'.cell? ⟨(ad277.add ((x5_1).toNat * 7)).block, (ad277.add ((x5_1).toNat * 7)).off + 4, none⟩ = some (.int .i64 ((rd_T72 l0 x5_1).f1.f3)) ∧ w'.cell? ⟨(ad277.add ((x5_1).toNat * 7)).block, (ad277.add ((x5_1).toNat * 7)).off + 5, none⟩ = some (.int .i64 ((rd_T72 l0 x5_1).f1.f4)) ∧ w'.cell? ⟨(ad277.add ((x5_1).toNat * 7)).block, (ad277.add ((x5_1).toNat * 7)).off + 6, none⟩ = some (.int .i64 ((rd_T72 l0 x5_1).f1.f5)) ∧ w'.cell? (ad278.add ((x5_1).toNat * 7)) = some (.int .i64 ((rd_T72 l1 x5_1).f0)) ∧ w'.cell? ⟨(ad278.add ((x5_1).toNat * 7)).block, (ad278.add ((x5_1).toNat * 7)).off + 1, none⟩ = some (.int .i64 ((rd_T72 l1 x5_1).f1.f0)) ∧ w'.cell? ⟨(ad278.add ((x5_1).toNat * 7)).block, (ad278.add ((x5_1).toNat * 7)).off + 2, none⟩ = some (.int .i64 ((rd_T72 l1 x5_1).f1.f1)) ∧ w'.cell? ⟨(ad278.add ((x5_1).toNat * 7)).block, (ad278.add ((x5_1).toNat * 7)).off + 3, none⟩ = some (.int .i64 ((rd_T72 l1 x5_1).f1.f2)) ∧ w'.cell? ⟨(ad278.add ((x5_1).toNat * 7)).block, (ad278.add ((x5_1).toNat * 7)).off + 4, none⟩ = some (.int .i64 ((rd_T72 l1 x5_1).f1.f3)) ∧ w'.cell? ⟨(ad278.add ((x5_1).toNat * 7)).block, (ad278.add ((x5_1).toNat * 7)).off + 5, none⟩ = some (.int .i64 ((rd_T72 l1 x5_1).f1.f4)) ∧ w'.cell? ⟨(ad278.add ((x5_1).toNat * 7)).block, (ad278.add ((x5_1).toNat * 7)).off + 6, none⟩ = some (.int .i64 ((rd_T72 l1 x5_1).f1.f5))) (ds := []) tb18 (by kernel_rfl) rfl rfl ⟨((HB.out.cell (yA w _ hw277_0)).trans hw277_0), ((HB.out.cell (yA w _ hw277_1)).trans hw277_1), ((HB.out.cell (yA w _ hw277_2)).trans hw277_2), ((HB.out.cell (yA w _ hw277_3)).trans hw277_3), ((HB.out.cell (yA w _ hw277_4)).trans hw277_4), ((HB.out.cell (yA w _ hw277_5)).trans hw277_5), ((HB.out.cell (yA w _ hw277_6)).trans hw277_6), ((HB.out.cell (yA w _ hw278_0)).trans hw278_0), ((HB.out.cell (yA w _ hw278_1)).trans hw278_1), ((HB.out.cell (yA w _ hw278_2)).trans hw278_2), ((HB.out.cell (yA w _ hw278_3)).trans hw278_3), ((HB.out.cell (yA w _ hw278_4)).trans hw278_4), ((HB.out.cell (yA w _ hw278_5)).trans hw278_5), ((HB.out.cell (yA w _ hw278_6)).trans hw278_6)⟩ (fun hHeld => ?_); refine with_tabW laws_eqEntryS.tab6 laws_eqEntryS.bits6 (fun HT_ HW_ => ?_)
      generalize wr.drew = w9 at HB hx277_0 hx277_1 hx277_2 hx277_3 hx277_4 hx277_5 hx277_6 hx278_0 hx278_1 hx278_2 hx278_3 hx278_4 hx278_5 hx278_6 hHeld ⊢
      refine uJ (i := 0) (N := some 17) (v := ?_) (a' := ?_) tb41 rfl rfl (vL HT_.out (by kernel_rfl)) (fun _ _ _ h => h) (Or.inl ⟨by rfl, ?_⟩) ?_ ?_
      rotate_left
      · intro w'
        go_simp
        with_reducible rfl
      rotate_left
      · simp only [Act.put, vU, vV, vW, uL, uM]
        rfl
      refine uJ (i := 1) (N := some 18) (v := ?_) (a' := ?_) tb42 rfl rfl (vL HT_.out (by kernel_rfl)) (fun _ _ _ h => h) (Or.inl ⟨by rfl, ?_⟩) ?_ ?_
      rotate_left
      · intro w'
        go_simp
        with_reducible rfl
      rotate_left
      · simp only [Act.put, vU, vV, vW, uL, uM]
        rfl
      refine uJ (i := 2) (N := some 19) (v := ?_) (a' := ?_) tb43 rfl rfl (vL HT_.out (by kernel_rfl)) (fun _ _ _ h => h) (Or.inl ⟨by rfl, ?_⟩) ?_ ?_
      rotate_left
      · intro w'
        go_simp
        with_reducible rfl
      rotate_left
      · simp only [Act.put, vU, vV, vW, uL, uM]
        rfl
      refine uJ (i := 4) (N := some 21) (v := ?_) (a' := ?_) tb44 rfl rfl (vL HT_.out (by kernel_rfl)) (fun _ _ _ h => h) (Or.inl ⟨by rfl, ?_⟩) ?_ ?_
      rotate_left
      · intro w'
        go_simp
        with_reducible rfl
      rotate_left
      · simp only [Act.put, vU, vV, vW, uL, uM]
        rfl
      refine uJ (i := 5) (N := some 22) (v := ?_) (a' := ?_) tb45 rfl rfl (vL HT_.out (by kernel_rfl)) (fun _ _ _ h => h) (Or.inl ⟨by rfl, ?_⟩) ?_ ?_
      rotate_left
      · intro w'
        go_simp
        with_reducible rfl
      rotate_left
      · simp only [Act.put, vU, vV, vW, uL, uM]
        rfl
      refine uJ (i := 6) (N := some 23) (v := ?_) (a' := ?_) tb9 rfl rfl (vL HT_.out (by kernel_rfl)) (fun _ _ _ h => h) (Or.inl ⟨by rfl, ?_⟩) ?_ ?_
      rotate_left
      · intro w'
        go_simp
        with_reducible rfl
      rotate_left
      · simp only [Act.put, vU, vV, vW, uL, uM]
        rfl
      refine take_ (i := 3) (N := some 20) (v := ?_) (a' := ?_) tb8 rfl rfl (take_ofW HT_.out HW_.out (by kernel_rfl)) (fun _ _ _ h => h) (Or.inl ⟨by rfl, ?_⟩) hHeld ?_ ?_
      rotate_left
      · rintro w' ⟨s0, s1, s2, s3, s4, s5, s6, s7, s8, s9, s10, s11, s12, s13⟩
        go_simp
        with_reducible rfl
      rotate_left
      · simp only [Act.put, vU, vV, vW, uL, uM]
        rfl
      refine take_ (i := 7) (N := some 24) (v := ?_) (a' := ?_) tb38 rfl rfl (take_ofW HT_.out HW_.out (by kernel_rfl)) (fun _ _ _ h => h) (Or.inl ⟨by rfl, ?_⟩) hHeld ?_ ?_
      rotate_left
      · rintro w' ⟨s0, s1, s2, s3, s4, s5, s6, s7, s8, s9, s10, s11, s12, s13⟩
        go_simp
        with_reducible rfl
      rotate_left
      · simp only [Act.put, vU, vV, vW, uL, uM]
        rfl
      refine one_ (i := 8) (N := some 25) tb39 rfl rfl (one_of HT_.out (by kernel_rfl)) (by decide) (fun K hK => ?_)
      refine goes_ Try.func69 (by kernel_rfl) rfl #[.agg #[.int .i64 ((rd_T72 l0 x5_1).f0), .int .i64 ((rd_T72 l0 x5_1).f1.f0), .int .i64 ((rd_T72 l0 x5_1).f1.f1), .int .i64 ((rd_T72 l0 x5_1).f1.f2), .int .i64 ((rd_T72 l0 x5_1).f1.f3), .int .i64 ((rd_T72 l0 x5_1).f1.f4), .int .i64 ((rd_T72 l0 x5_1).f1.f5)], .agg #[.int .i64 ((rd_T72 l1 x5_1).f0), .int .i64 ((rd_T72 l1 x5_1).f1.f0), .int .i64 ((rd_T72 l1 x5_1).f1.f1), .int .i64 ((rd_T72 l1 x5_1).f1.f2), .int .i64 ((rd_T72 l1 x5_1).f1.f3), .int .i64 ((rd_T72 l1 x5_1).f1.f4), .int .i64 ((rd_T72 l1 x5_1).f1.f5)]] (by rfl) rfl rfl (by (try simp only [vX, List.map_cons, List.map_nil]); first | done | rfl | (simp only [vZ, vY]; rfl)) ?_
      with_reducible refine (laws_eqEntry.calls ((rd_T72 l0 x5_1).f0) ((rd_T72 l0 x5_1).f1.f0) ((rd_T72 l0 x5_1).f1.f1) ((rd_T72 l0 x5_1).f1.f2) ((rd_T72 l0 x5_1).f1.f3) ((rd_T72 l0 x5_1).f1.f4) ((rd_T72 l0 x5_1).f1.f5) ((rd_T72 l1 x5_1).f0) ((rd_T72 l1 x5_1).f1.f0) ((rd_T72 l1 x5_1).f1.f1) ((rd_T72 l1 x5_1).f1.f2) ((rd_T72 l1 x5_1).f1.f3) ((rd_T72 l1 x5_1).f1.f4) ((rd_T72 l1 x5_1).f1.f5) true _ A7.out).mono ?_
      rintro e w10 ⟨rfl, hb⟩
      refine ⟨_, rfl, ?_⟩
      have n0_ := Aside0.mk (uS (by repeat (first | (with_reducible first | exact HB.out | apply uG | apply uA | apply uF) | exact HB.out)) hb)
      clear HB
      have HB := n0_
      clear n0_
      (try clear hb)
      (try clear hb2)
      (try clear hk)
      (try clear hi)
      refine hK.out _ _ ⟨((HB.out.cell (yA w _ hw277_0)).trans hw277_0), ((HB.out.cell (yA w _ hw277_1)).trans hw277_1), ((HB.out.cell (yA w _ hw277_2)).trans hw277_2), ((HB.out.cell (yA w _ hw277_3)).trans hw277_3), ((HB.out.cell (yA w _ hw277_4)).trans hw277_4), ((HB.out.cell (yA w _ hw277_5)).trans hw277_5), ((HB.out.cell (yA w _ hw277_6)).trans hw277_6), ((HB.out.cell (yA w _ hw278_0)).trans hw278_0), ((HB.out.cell (yA w _ hw278_1)).trans hw278_1), ((HB.out.cell (yA w _ hw278_2)).trans hw278_2), ((HB.out.cell (yA w _ hw278_3)).trans hw278_3), ((HB.out.cell (yA w _ hw278_4)).trans hw278_4), ((HB.out.cell (yA w _ hw278_5)).trans hw278_5), ((HB.out.cell (yA w _ hw278_6)).trans hw278_6)⟩ (fun hHeld => ?_)
      clear hK K
      refine vC (a' := ?_) ?_ ?_
      rotate_left
      · show Act.put _ (some 25) _ = _
        simp only [Act.put, vU, vV, vW, uL, uM]
        rfl
      refine uJ (i := 9) (N := some 26) (v := ?_) (a' := ?_) tb40 rfl rfl (vL HT_.out (by kernel_rfl)) (fun _ _ _ h => h) (Or.inl ⟨by rfl, ?_⟩) ?_ ?_
      rotate_left
      · intro w'
        go_simp
        with_reducible rfl
      rotate_left
      · simp only [Act.put, vU, vV, vW, uL, uM]
        rfl
      refine done_ (done_of HT_.out (by kernel_rfl)) ?_
      try go_wp2
      go_roundg k1
      case measure => have := HK1.out; omega
      case rel => exact ⟨(wrap64 (x5_1 + 1)), (by first | rfl | (simp; done) | (simp [*]; done)), H', ⟨by have := HK1.out; omega⟩, ⟨by repeat (first | (with_reducible first | exact HB.out | apply uG | apply uA | apply uF) | exact HB.out)⟩⟩

/-! ### laws_FnExactResultAt: function 5 -/
def laws_FnExactResultAt.j0 : Nat → List (S97) → List (S72) → Bool → Option (Bool)
  | 0, _, _, _ => none
  | k + 1, x0, x8, x39 => if x39 = true then (some false) else ((laws_toEntryS.f k x0).bind fun t296 => ((laws_eqEntryS.f k x8 t296).bind fun t299 => (if t299 = true then (some true) else (some false))))
def laws_FnExactResultAt.f (k : Nat) (l0 : List (S97)) (a1 : Int) : Option (Bool) := (laws_szEntryS.f l0 1048576).bind fun t280 => (if t280 < 0 then (some true) else ((laws_toEntryS.f k l0).bind fun t281 => ((spec_ResultAt.f k t281 a1).bind fun bt284 => ((laws_toEntryS.f k l0).bind fun t288 => ((impl_ResultAt.f k t288 a1).bind fun bt291 => ((laws_eqResult.f bt291.1 bt291.2.1 bt284.1 bt284.2.1).bind fun t295 => (if t295 = true then (laws_FnExactResultAt.j0 k l0 t288 (bt291.2.2 != bt284.2.2)) else (laws_FnExactResultAt.j0 k l0 t288 true))))))))
theorem laws_FnExactResultAt.mono_l : ∀ k, (∀ y0 y1 y2, vB (laws_FnExactResultAt.j0 k y0 y1 y2) (laws_FnExactResultAt.j0 (k + 1) y0 y1 y2))
  | 0 => fun _ _ _ r h => by simp [laws_FnExactResultAt.j0] at h
  | k + 1 => by
    have ih0 := laws_FnExactResultAt.mono_l k
    intro y0 y1 y2
    unfold laws_FnExactResultAt.j0
    repeat' first
    | (with_reducible exact ih0 _ _ _)
    | (with_reducible exact impl_ResultAt.mono _ _ _)
    | (with_reducible exact laws_eqEntryS.mono _ _ _)
    | (with_reducible exact laws_toEntryS.mono _ _)
    | (with_reducible exact spec_ResultAt.mono _ _ _)
    | (with_reducible exact vB.refl _)
    | (with_reducible exact vB.none _)
    | (with_reducible refine vB.ite ?_ ?_)
    | (with_reducible refine vB.bind ?_ (fun _ => ?_))
    | exact ih0 _ _ _
    | exact impl_ResultAt.mono _ _ _
    | exact laws_eqEntryS.mono _ _ _
    | exact laws_toEntryS.mono _ _
    | exact spec_ResultAt.mono _ _ _
    | exact vB.none _
    | refine vB.ite ?_ ?_
    | refine vB.bind ?_ (fun _ => ?_)
theorem laws_FnExactResultAt.mono : ∀ a0 a1 k, vB (laws_FnExactResultAt.f k a0 a1) (laws_FnExactResultAt.f (k + 1) a0 a1) := by
  intro a0 a1 k
  have ih0 := laws_FnExactResultAt.mono_l k
  unfold laws_FnExactResultAt.f
  repeat' first
      | (with_reducible exact ih0 _ _ _)
      | (with_reducible exact impl_ResultAt.mono _ _ _)
      | (with_reducible exact laws_eqEntryS.mono _ _ _)
      | (with_reducible exact laws_toEntryS.mono _ _)
      | (with_reducible exact spec_ResultAt.mono _ _ _)
      | (with_reducible exact vB.refl _)
      | (with_reducible exact vB.none _)
      | (with_reducible refine vB.ite ?_ ?_)
      | (with_reducible refine vB.bind ?_ (fun _ => ?_))
      | exact ih0 _ _ _
      | exact impl_ResultAt.mono _ _ _
      | exact laws_eqEntryS.mono _ _ _
      | exact laws_toEntryS.mono _ _
      | exact spec_ResultAt.mono _ _ _
      | exact vB.none _
      | refine vB.ite ?_ ?_
      | refine vB.bind ?_ (fun _ => ?_)
set_option maxHeartbeats 8000000 in
set_option maxRecDepth 100000 in
theorem laws_FnExactResultAt.calls (k : Nat) (A0 : Option Addr) (c0 : Nat) (l0 : List (S97)) (a1 : Int) (w : World) (hr0 : Kd.C k97 w A0 l0.length l0) (hc0 : l0.length ≤ c0) (h : laws_FnExactResultAt.f k l0 a1 = some true) :
    Calls Try.prog 5 #[.slice A0 l0.length c0, .int .i64 a1] w fun e w' => e = .returned (.bool true) ∧ Below w.heap.size w w' := by
  have hu33 := Try.underlying33
  have HR0 := Aside0.mk hr0
  have HC0 := Aside0.mk hc0
  clear hr0 hc0
  have HB := Aside0.mk (Below.refl w.heap.size w)
  have H : ((laws_szEntryS.f l0 1048576).bind fun t280 => (if t280 < 0 then (some true) else ((laws_toEntryS.f k l0).bind fun t281 => ((spec_ResultAt.f k t281 a1).bind fun bt284 => ((laws_toEntryS.f k l0).bind fun t288 => ((impl_ResultAt.f k t288 a1).bind fun bt291 => ((laws_eqResult.f bt291.1 bt291.2.1 bt284.1 bt284.2.1).bind fun t295 => (if t295 = true then (laws_FnExactResultAt.j0 k l0 t288 (bt291.2.2 != bt284.2.2)) else (laws_FnExactResultAt.j0 k l0 t288 true))))))))) = some true := h
  clear h
  replace H := Option.bind_eq_some_iff.mp H
  obtain ⟨t280, A30, H⟩ := H
  replace H : (if t280 < 0 then (some true) else ((laws_toEntryS.f k l0).bind fun t281 => ((spec_ResultAt.f k t281 a1).bind fun bt284 => ((laws_toEntryS.f k l0).bind fun t288 => ((impl_ResultAt.f k t288 a1).bind fun bt291 => ((laws_eqResult.f bt291.1 bt291.2.1 bt284.1 bt284.2.1).bind fun t295 => (if t295 = true then (laws_FnExactResultAt.j0 k l0 t288 (bt291.2.2 != bt284.2.2)) else (laws_FnExactResultAt.j0 k l0 t288 true)))))))) = some true := H
  have A3 := Aside0.mk A30
  clear A30
  go_enter Try.func5, Try.ntmps5
  go_wp2_with (first | ((with_reducible refine uX (f := 25) rfl ?_); refine vM (some 13) rfl rfl Try.func25 (by kernel_rfl) rfl #[.slice A0 l0.length c0, .int .i64 1048576] rfl (by (try simp only [vX, List.map_cons, List.map_nil]); first | done | rfl | (simp only [vZ, vY]; rfl)) ?_; (with_reducible refine (laws_szEntryS.calls _ _ l0 1048576 t280 _ ?side1 ?side2 A3.out).mono ?_); (case side1 => repeat (first | exact HR0.out | (with_reducible refine Kd.vQ ?_ _) | (with_reducible refine Kd.vP ?_ _) | (with_reducible refine Kd.vS ?_))); (case side2 => exact HC0.out); rintro e w' ⟨rfl, ⟨nd, rfl⟩⟩; refine ⟨_, rfl, ?_⟩; refine ?roundEnd))
  case roundEnd =>
  by_cases c4 : t280 < 0
  · rw [if_pos c4] at H
    have c4b0 : decide (t280 < 0) = true := decide_eq_true c4
    clear c4
    go_wp2
    go_ret
    exact ⟨by first | rfl | (simp [errW_none, errW_some] <;> rfl) | (simp [*, errW_none, errW_some] <;> rfl), by repeat (first | (with_reducible first | exact HB.out | apply uG | apply uA | apply uF) | exact HB.out)⟩
  rw [if_neg c4] at H
  have c4b0 : decide (t280 < 0) = false := decide_eq_false c4
  clear c4
  replace H := Option.bind_eq_some_iff.mp H
  obtain ⟨t281, A50, H⟩ := H
  replace H : ((spec_ResultAt.f k t281 a1).bind fun bt284 => ((laws_toEntryS.f k l0).bind fun t288 => ((impl_ResultAt.f k t288 a1).bind fun bt291 => ((laws_eqResult.f bt291.1 bt291.2.1 bt284.1 bt284.2.1).bind fun t295 => (if t295 = true then (laws_FnExactResultAt.j0 k l0 t288 (bt291.2.2 != bt284.2.2)) else (laws_FnExactResultAt.j0 k l0 t288 true)))))) = some true := H
  have A5 := Aside0.mk A50
  clear A50
  replace H := Option.bind_eq_some_iff.mp H
  obtain ⟨⟨t284, t285, t286⟩, A60, H⟩ := H
  replace H : ((laws_toEntryS.f k l0).bind fun t288 => ((impl_ResultAt.f k t288 a1).bind fun bt291 => ((laws_eqResult.f bt291.1 bt291.2.1 t284 t285).bind fun t295 => (if t295 = true then (laws_FnExactResultAt.j0 k l0 t288 (bt291.2.2 != t286)) else (laws_FnExactResultAt.j0 k l0 t288 true))))) = some true := H
  have A6 := Aside0.mk A60
  clear A60
  replace H := Option.bind_eq_some_iff.mp H
  obtain ⟨t288, A70, H⟩ := H
  replace H : ((impl_ResultAt.f k t288 a1).bind fun bt291 => ((laws_eqResult.f bt291.1 bt291.2.1 t284 t285).bind fun t295 => (if t295 = true then (laws_FnExactResultAt.j0 k l0 t288 (bt291.2.2 != t286)) else (laws_FnExactResultAt.j0 k l0 t288 true)))) = some true := H
  have A7 := Aside0.mk A70
  clear A70
  replace H := Option.bind_eq_some_iff.mp H
  obtain ⟨⟨t291, t292, t293⟩, A80, H⟩ := H
  replace H : ((laws_eqResult.f t291 t292 t284 t285).bind fun t295 => (if t295 = true then (laws_FnExactResultAt.j0 k l0 t288 (t293 != t286)) else (laws_FnExactResultAt.j0 k l0 t288 true))) = some true := H
  have A8 := Aside0.mk A80
  clear A80
  have HC9 := Aside0.mk H
  clear H
  go_upto_region 8 with (first | ((with_reducible refine uX (f := 27) rfl ?_); refine vM (some 18) rfl rfl Try.func27 (by kernel_rfl) rfl #[.slice A0 l0.length c0] rfl (by (try simp only [vX, List.map_cons, List.map_nil]); first | done | rfl | (simp only [vZ, vY]; rfl)) ?_; (with_reducible refine (laws_toEntryS.calls k _ _ l0 t281 _ ?side1 ?side2 A5.out).mono ?_); (case side1 => repeat (first | exact HR0.out | (with_reducible refine Kd.vQ ?_ _) | (with_reducible refine Kd.vP ?_ _) | (with_reducible refine Kd.vS ?_))); (case side2 => exact HC0.out); rintro e w10 ⟨v282, rfl, ho0, hb⟩; refine ⟨_, rfl, ?_⟩; have n0_ := Aside0.mk (Kd.vO ho0 (uQ (by repeat (first | (with_reducible first | exact HB.out | apply uG | apply uA | apply uF) | exact HB.out)))); have n1_ := Aside0.mk (uS (by repeat (first | (with_reducible first | exact HB.out | apply uG | apply uA | apply uF) | exact HB.out)) hb); clear HB; have HO283 := n0_; have HB := n1_; clear n0_ n1_; (try clear hb); (try clear hb2); (try clear hk); (try clear hi); (try clear ho0); obtain ⟨Ao11, co11, eo11⟩ := Kd.vN HO283.out; subst eo11) | ((with_reducible refine uX (f := 26) rfl ?_); refine vM (some 20) rfl rfl Try.func26 (by kernel_rfl) rfl #[.slice Ao11 t281.length co11, .int .i64 a1] rfl (by (try simp only [vX, List.map_cons, List.map_nil]); first | done | rfl | (simp only [vZ, vY]; rfl)) ?_; (with_reducible refine (spec_ResultAt.calls k _ _ t281 a1 t284 t285 t286 _ ?side1 ?side2 A6.out).mono ?_); (case side1 => repeat (first | exact (Kd.vH HO283.out).2.2 | (with_reducible refine Kd.vQ ?_ _) | (with_reducible refine Kd.vP ?_ _) | (with_reducible refine Kd.vS ?_))); (case side2 => exact (Kd.vH HO283.out).2.1); rintro e w12 ⟨rfl, hb⟩; refine ⟨_, rfl, ?_⟩; have n0_ := Aside0.mk (Kd.vD (by (with_reducible repeat (first | apply Kd.uN | apply Kd.uO | apply Kd.uP)); exact HO283.out) hb); have n1_ := Aside0.mk (uS (by repeat (first | (with_reducible first | exact HB.out | apply uG | apply uA | apply uF) | exact HB.out)) hb); clear HO283; clear HB; have HO283 := n0_; have HB := n1_; clear n0_ n1_; (try clear hb); (try clear hb2); (try clear hk); (try clear hi)) | ((with_reducible refine uU (N := 6) rfl ?_); refine uT ?hg (N := 6) ?hd (cs := #[.bool false, .int .i64 0]) (t := 33) ?hr ?_; (case hd => rfl); (case hg => rfl); (case hr => first | (go_simp; done) | (go_simp; rfl)); intro gb287 hg w13 hbox hb; have n0_ := Aside0.mk (Kd.vD (by (with_reducible repeat (first | apply Kd.uN | apply Kd.uO | apply Kd.uP)); exact HO283.out) hb); have n1_ := Aside0.mk (uS (by repeat (first | (with_reducible first | exact HB.out | apply uG | apply uA | apply uF) | exact HB.out)) hb); have n2_ := Aside0.mk (hbox); have n3_ := Aside0.mk ((by rw [hg]; exact (uQ (by repeat (first | (with_reducible first | exact HB.out | apply uG | apply uA | apply uF) | exact HB.out))) : w.heap.size ≤ gb287)); have n4_ := Aside0.mk ((by rw [hg]; exact (uQ (by repeat (first | (with_reducible first | exact HB.out | apply uG | apply uA | apply uF) | exact HB.out))) : w.heap.size ≤ gb287)); clear HO283; clear HB; have HO283 := n0_; have HB := n1_; have BK287 := n2_; have GW287 := n3_; have GE287 := n4_; clear n0_ n1_ n2_ n3_ n4_; clear hb hbox hg; have hcz14_0 : w13.cell? ⟨gb287, 0, none⟩ = some (.bool false) := (uI BK287.out 0).trans rfl; have hcz14_1 : w13.cell? ⟨gb287, 1, none⟩ = some (.int .i64 0) := (uI BK287.out 1).trans rfl; have hfz14_0 := uK BK287.out 0; have hfz14_1 := uK BK287.out 1) | ((with_reducible refine uX (f := 27) rfl ?_); refine vM (some 24) rfl rfl Try.func27 (by kernel_rfl) rfl #[.slice A0 l0.length c0] rfl (by (try simp only [vX, List.map_cons, List.map_nil]); first | done | rfl | (simp only [vZ, vY]; rfl)) ?_; (with_reducible refine (laws_toEntryS.calls k _ _ l0 t288 _ ?side1 ?side2 A7.out).mono ?_); (case side1 => exact Kd.vE HR0.out (by repeat (first | (with_reducible first | exact HB.out | apply uG | apply uA | apply uF | refine uB ?_ GE287.out) | exact HB.out))); (case side2 => exact HC0.out); rintro e w15 ⟨v289, rfl, ho0, hb⟩; refine ⟨_, rfl, ?_⟩; have n0_ := Aside0.mk (Kd.R_elder' (by (with_reducible repeat (first | apply Kd.uN | apply Kd.uO | apply Kd.uP)); exact (Kd.uZ (Kd.vG (p := ⟨gb287, 1, none⟩) (Kd.vG (p := ⟨gb287, 0, none⟩) (Kd.vR HO283.out BK287.out (by decide)) (fun _ hk => hk.2) (.bool t284)) (fun _ hk => hk.2) (.int .i64 t285)) (fun _ h_ => h_.1))) (Kd.R_base ho0) hb); have n1_ := Aside0.mk (Kd.vO (Kd.R_new' ho0 (Kd.R_lt (by (with_reducible repeat (first | apply Kd.uN | apply Kd.uO | apply Kd.uP)); exact (Kd.uZ (Kd.vG (p := ⟨gb287, 1, none⟩) (Kd.vG (p := ⟨gb287, 0, none⟩) (Kd.vR HO283.out BK287.out (by decide)) (fun _ hk => hk.2) (.bool t284)) (fun _ hk => hk.2) (.int .i64 t285)) (fun _ h_ => h_.1))))) (uQ (by repeat (first | (with_reducible first | exact HB.out | apply uG | apply uA | apply uF | refine uB ?_ GE287.out) | exact HB.out)))); have n2_ := Aside0.mk (uR (g := gb287) (o := .cells #[.bool t284, .int .i64 t285] 33 (0, 0)) (by (with_reducible repeat (first | refine uC ?_ _ | refine uE ?_ | refine uD ?_ _)); refine uW (cs := #[.bool t284, .int .i64 0]) ?_ 1 _ rfl; (with_reducible repeat (first | refine uC ?_ _ | refine uE ?_ | refine uD ?_ _)); refine uW (cs := #[.bool false, .int .i64 0]) ?_ 0 _ rfl; (with_reducible repeat (first | refine uC ?_ _ | refine uE ?_ | refine uD ?_ _)); exact BK287.out) hb); have n3_ := Aside0.mk (uS (by repeat (first | (with_reducible first | exact HB.out | apply uG | apply uA | apply uF | refine uB ?_ GE287.out) | exact HB.out)) hb); clear HO283; clear BK287; clear HB; have HO283 := n0_; have HO290 := n1_; have BK287 := n2_; have HB := n3_; clear n0_ n1_ n2_ n3_; (try clear hb); (try clear hb2); (try clear hk); (try clear hi); (try clear ho0); obtain ⟨Ao16, co16, eo16⟩ := Kd.vN HO290.out; subst eo16) | ((with_reducible refine uX (f := 28) rfl ?_); refine vM (some 28) rfl rfl Try.func28 (by kernel_rfl) rfl #[.slice Ao16 t288.length co16, .int .i64 a1] rfl (by (try simp only [vX, List.map_cons, List.map_nil]); first | done | rfl | (simp only [vZ, vY]; rfl)) ?_; (with_reducible refine (impl_ResultAt.calls k _ _ t288 a1 t291 t292 t293 _ ?side1 ?side2 A8.out).mono ?_); (case side1 => repeat (first | exact (Kd.vH HO290.out).2.2 | (with_reducible refine Kd.vQ ?_ _) | (with_reducible refine Kd.vP ?_ _) | (with_reducible refine Kd.vS ?_))); (case side2 => exact (Kd.vH HO290.out).2.1); rintro e w17 ⟨rfl, hb⟩; refine ⟨_, rfl, ?_⟩; have n0_ := Aside0.mk (Kd.vD (by (with_reducible repeat (first | apply Kd.uN | apply Kd.uO | apply Kd.uP)); exact HO283.out) hb); have n1_ := Aside0.mk (Kd.vD (by (with_reducible repeat (first | apply Kd.uN | apply Kd.uO | apply Kd.uP)); exact HO290.out) hb); have n2_ := Aside0.mk (uR (g := gb287) (o := .cells #[.bool t284, .int .i64 t285] 33 (0, 0)) (by (with_reducible repeat (first | refine uC ?_ _ | refine uE ?_ | refine uD ?_ _)); exact BK287.out) hb); have n3_ := Aside0.mk (uS (by repeat (first | (with_reducible first | exact HB.out | apply uG | apply uA | apply uF | refine uB ?_ GE287.out) | exact HB.out)) hb); clear HO283; clear HO290; clear BK287; clear HB; have HO283 := n0_; have HO290 := n1_; have BK287 := n2_; have HB := n3_; clear n0_ n1_ n2_ n3_; (try clear hb); (try clear hb2); (try clear hk); (try clear hi)) | ((with_reducible refine uU (N := 9) rfl ?_); refine uT ?hg (N := 9) ?hd (cs := #[.bool false, .int .i64 0]) (t := 33) ?hr ?_; (case hd => rfl); (case hg => rfl); (case hr => first | (go_simp; done) | (go_simp; rfl)); intro gb294 hg w18 hbox hb; have n0_ := Aside0.mk (Kd.vD (by (with_reducible repeat (first | apply Kd.uN | apply Kd.uO | apply Kd.uP)); exact HO283.out) hb); have n1_ := Aside0.mk (Kd.vD (by (with_reducible repeat (first | apply Kd.uN | apply Kd.uO | apply Kd.uP)); exact HO290.out) hb); have n2_ := Aside0.mk (uR (g := gb287) (o := .cells #[.bool t284, .int .i64 t285] 33 (0, 0)) (by (with_reducible repeat (first | refine uC ?_ _ | refine uE ?_ | refine uD ?_ _)); exact BK287.out) hb); have n3_ := Aside0.mk (uS (by repeat (first | (with_reducible first | exact HB.out | apply uG | apply uA | apply uF | refine uB ?_ GE287.out) | exact HB.out)) hb); have n4_ := Aside0.mk (hbox); have n5_ := Aside0.mk ((by rw [hg]; exact (uQ (by repeat (first | (with_reducible first | exact HB.out | apply uG | apply uA | apply uF | refine uB ?_ GE287.out) | exact HB.out))) : w.heap.size ≤ gb294)); have n6_ := Aside0.mk ((by rw [hg]; exact (uQ (by repeat (first | (with_reducible first | exact HB.out | apply uG | apply uA | apply uF | refine uB ?_ GE287.out) | exact HB.out))) : w.heap.size ≤ gb294)); have n7_ := Aside0.mk ((by rw [hg]; exact Nat.ne_of_lt (uV (g := gb287) (o := .cells #[.bool t284, .int .i64 t285] 33 (0, 0)) (by (with_reducible repeat (first | refine uC ?_ _ | refine uE ?_ | refine uD ?_ _)); exact BK287.out)) : gb287 ≠ gb294)); have n8_ := Aside0.mk ((by rw [hg]; exact Nat.ne_of_gt (uV (g := gb287) (o := .cells #[.bool t284, .int .i64 t285] 33 (0, 0)) (by (with_reducible repeat (first | refine uC ?_ _ | refine uE ?_ | refine uD ?_ _)); exact BK287.out)) : gb294 ≠ gb287)); clear HO283; clear HO290; clear BK287; clear HB; have HO283 := n0_; have HO290 := n1_; have BK287 := n2_; have HB := n3_; have BK294 := n4_; have GW294 := n5_; have GE294 := n6_; have NB287_294 := n7_; have NB294_287 := n8_; clear n0_ n1_ n2_ n3_ n4_ n5_ n6_ n7_ n8_; clear hb hbox hg; have hnb19 := NB294_287.out; have hnc19 := NB287_294.out; have hcz20_0 : w18.cell? ⟨gb294, 0, none⟩ = some (.bool false) := (uI BK294.out 0).trans rfl; have hcz20_1 : w18.cell? ⟨gb294, 1, none⟩ = some (.int .i64 0) := (uI BK294.out 1).trans rfl; have hfz20_0 := uK BK294.out 0; have hfz20_1 := uK BK294.out 1))
  (try simp only [Act.put, vU, vV, vW])
  go_cut [39] (fun v39 wc => ∃ (kq : Nat) (x39_8 : Bool), v39 = .bool x39_8 ∧ Aside0 (laws_FnExactResultAt.j0 kq l0 t288 x39_8 = some true) ∧ Aside0 (kq ≤ k) ∧ Aside0 (Kd.R k72 72 wc w.heap.size (fun _ => True) (.slice Ao16 t288.length co16) t288) ∧ Aside0 (wc.heap[gb287]? = some (.cells #[.bool t284, .int .i64 t285] 33 (0, 0))) ∧ Aside0 (wc.heap[gb294]? = some (.cells #[.bool t291, .int .i64 t292] 33 (0, 0))) ∧ Aside0 (Below w.heap.size w wc))
  case first =>
    have H := HC9.out
    clear HC9
    replace H := Option.bind_eq_some_iff.mp H
    obtain ⟨t295, A210, H⟩ := H
    replace H : (if t295 = true then (laws_FnExactResultAt.j0 k l0 t288 (t293 != t286)) else (laws_FnExactResultAt.j0 k l0 t288 true)) = some true := H
    have A21 := Aside0.mk A210
    clear A210
    by_cases c22 : t295 = true
    · subst c22
      have H1 : (laws_FnExactResultAt.j0 k l0 t288 (t293 != t286)) = some true := by first | (rw [if_pos rfl] at H; exact H) | rfl
      clear H
      have H := H1
      clear H1
      have H' := Aside0.mk H
      clear H
      have hnb23 := NB294_287.out
      have hnc23 := NB287_294.out
      have hcz24_0 : w18.cell? ⟨gb294, 0, none⟩ = some (.bool false) := (uI BK294.out 0).trans rfl
      have hcz24_1 : w18.cell? ⟨gb294, 1, none⟩ = some (.int .i64 0) := (uI BK294.out 1).trans rfl
      have hfz24_0 := uK BK294.out 0
      have hfz24_1 := uK BK294.out 1
      have hcz25_0 : w18.cell? ⟨gb287, 0, none⟩ = some (.bool t284) := (uI BK287.out 0).trans rfl
      have hcz25_1 : w18.cell? ⟨gb287, 1, none⟩ = some (.int .i64 t285) := (uI BK287.out 1).trans rfl
      have hfz25_0 := uK BK287.out 0
      have hfz25_1 := uK BK287.out 1
      go_wp2_with (first | ((with_reducible refine uX (f := 14) rfl ?_); refine vM (some 33) rfl rfl Try.func14 (by kernel_rfl) rfl #[.agg #[.bool t291, .int .i64 t292], .agg #[.bool t284, .int .i64 t285]] rfl (by (try simp only [vX, List.map_cons, List.map_nil]); first | done | rfl | (simp only [vZ, vY]; rfl)) ?_; (with_reducible refine (laws_eqResult.calls t291 t292 t284 t285 true _ A21.out).mono ?_); rintro e w26 ⟨rfl, hb⟩; refine ⟨_, rfl, ?_⟩; have n0_ := Aside0.mk (Kd.vD (by (with_reducible repeat (first | apply Kd.uN | apply Kd.uO | apply Kd.uP)); exact (Kd.uZ (Kd.vG (p := ⟨gb294, 1, none⟩) (Kd.vG (p := ⟨gb294, 0, none⟩) (Kd.vR HO283.out BK294.out (by decide)) (fun _ hk => hk.2) (.bool t291)) (fun _ hk => hk.2) (.int .i64 t292)) (fun _ h_ => h_.1))) hb); have n1_ := Aside0.mk (Kd.vD (by (with_reducible repeat (first | apply Kd.uN | apply Kd.uO | apply Kd.uP)); exact (Kd.uZ (Kd.vG (p := ⟨gb294, 1, none⟩) (Kd.vG (p := ⟨gb294, 0, none⟩) (Kd.vR HO290.out BK294.out (by decide)) (fun _ hk => hk.2) (.bool t291)) (fun _ hk => hk.2) (.int .i64 t292)) (fun _ h_ => h_.1))) hb); have n2_ := Aside0.mk (uR (g := gb287) (o := .cells #[.bool t284, .int .i64 t285] 33 (0, 0)) (by (with_reducible repeat (first | refine uC ?_ _ | refine uE ?_ | refine uD ?_ _)); refine vF ?_ NB287_294.out _; (with_reducible repeat (first | refine uC ?_ _ | refine uE ?_ | refine uD ?_ _)); refine vF ?_ NB287_294.out _; (with_reducible repeat (first | refine uC ?_ _ | refine uE ?_ | refine uD ?_ _)); exact BK287.out) hb); have n3_ := Aside0.mk (uR (g := gb294) (o := .cells #[.bool t291, .int .i64 t292] 33 (0, 0)) (by (with_reducible repeat (first | refine uC ?_ _ | refine uE ?_ | refine uD ?_ _)); refine uW (cs := #[.bool t291, .int .i64 0]) ?_ 1 _ rfl; (with_reducible repeat (first | refine uC ?_ _ | refine uE ?_ | refine uD ?_ _)); refine uW (cs := #[.bool false, .int .i64 0]) ?_ 0 _ rfl; (with_reducible repeat (first | refine uC ?_ _ | refine uE ?_ | refine uD ?_ _)); exact BK294.out) hb); have n4_ := Aside0.mk (uS (by repeat (first | (with_reducible first | exact HB.out | apply uG | apply uA | apply uF | refine uB ?_ GE287.out | refine uB ?_ GE294.out) | exact HB.out)) hb); clear HO283; clear HO290; clear BK287; clear BK294; clear HB; have HO283 := n0_; have HO290 := n1_; have BK287 := n2_; have BK294 := n3_; have HB := n4_; clear n0_ n1_ n2_ n3_ n4_; (try clear hb); (try clear hb2); (try clear hk); (try clear hi)))
      go_meet
      case rel => exact ⟨_, ((t293 != t286)), (by first | rfl | (simp; done) | (simp [*]; done)), H', ⟨by first | omega | exact Nat.le_refl _⟩, ⟨by (with_reducible repeat (first | apply Kd.uN | apply Kd.uO | apply Kd.uP)); exact Kd.uZ HO290.out (fun _ hk => trivial)⟩, ⟨by (with_reducible repeat (first | refine uC ?_ _ | refine uE ?_ | refine uD ?_ _)); exact BK287.out⟩, ⟨by (with_reducible repeat (first | refine uC ?_ _ | refine uE ?_ | refine uD ?_ _)); exact BK294.out⟩, ⟨by repeat (first | (with_reducible first | exact HB.out | apply uG | apply uA | apply uF | refine uB ?_ GE287.out | refine uB ?_ GE294.out) | exact HB.out)⟩⟩
    replace c22 := Bool.eq_false_iff.mpr c22
    subst c22
    have H1 : (laws_FnExactResultAt.j0 k l0 t288 true) = some true := by first | (rw [if_neg (show ¬ (false = true) by decide)] at H; exact H) | rfl
    clear H
    have H := H1
    clear H1
    have H' := Aside0.mk H
    clear H
    have hnb27 := NB294_287.out
    have hnc27 := NB287_294.out
    have hcz28_0 : w18.cell? ⟨gb294, 0, none⟩ = some (.bool false) := (uI BK294.out 0).trans rfl
    have hcz28_1 : w18.cell? ⟨gb294, 1, none⟩ = some (.int .i64 0) := (uI BK294.out 1).trans rfl
    have hfz28_0 := uK BK294.out 0
    have hfz28_1 := uK BK294.out 1
    have hcz29_0 : w18.cell? ⟨gb287, 0, none⟩ = some (.bool t284) := (uI BK287.out 0).trans rfl
    have hcz29_1 : w18.cell? ⟨gb287, 1, none⟩ = some (.int .i64 t285) := (uI BK287.out 1).trans rfl
    have hfz29_0 := uK BK287.out 0
    have hfz29_1 := uK BK287.out 1
    go_wp2_with (first | ((with_reducible refine uX (f := 14) rfl ?_); refine vM (some 33) rfl rfl Try.func14 (by kernel_rfl) rfl #[.agg #[.bool t291, .int .i64 t292], .agg #[.bool t284, .int .i64 t285]] rfl (by (try simp only [vX, List.map_cons, List.map_nil]); first | done | rfl | (simp only [vZ, vY]; rfl)) ?_; (with_reducible refine (laws_eqResult.calls t291 t292 t284 t285 false _ A21.out).mono ?_); rintro e w30 ⟨rfl, hb⟩; refine ⟨_, rfl, ?_⟩; have n0_ := Aside0.mk (Kd.vD (by (with_reducible repeat (first | apply Kd.uN | apply Kd.uO | apply Kd.uP)); exact (Kd.uZ (Kd.vG (p := ⟨gb294, 1, none⟩) (Kd.vG (p := ⟨gb294, 0, none⟩) (Kd.vR HO283.out BK294.out (by decide)) (fun _ hk => hk.2) (.bool t291)) (fun _ hk => hk.2) (.int .i64 t292)) (fun _ h_ => h_.1))) hb); have n1_ := Aside0.mk (Kd.vD (by (with_reducible repeat (first | apply Kd.uN | apply Kd.uO | apply Kd.uP)); exact (Kd.uZ (Kd.vG (p := ⟨gb294, 1, none⟩) (Kd.vG (p := ⟨gb294, 0, none⟩) (Kd.vR HO290.out BK294.out (by decide)) (fun _ hk => hk.2) (.bool t291)) (fun _ hk => hk.2) (.int .i64 t292)) (fun _ h_ => h_.1))) hb); have n2_ := Aside0.mk (uR (g := gb287) (o := .cells #[.bool t284, .int .i64 t285] 33 (0, 0)) (by (with_reducible repeat (first | refine uC ?_ _ | refine uE ?_ | refine uD ?_ _)); refine vF ?_ NB287_294.out _; (with_reducible repeat (first | refine uC ?_ _ | refine uE ?_ | refine uD ?_ _)); refine vF ?_ NB287_294.out _; (with_reducible repeat (first | refine uC ?_ _ | refine uE ?_ | refine uD ?_ _)); exact BK287.out) hb); have n3_ := Aside0.mk (uR (g := gb294) (o := .cells #[.bool t291, .int .i64 t292] 33 (0, 0)) (by (with_reducible repeat (first | refine uC ?_ _ | refine uE ?_ | refine uD ?_ _)); refine uW (cs := #[.bool t291, .int .i64 0]) ?_ 1 _ rfl; (with_reducible repeat (first | refine uC ?_ _ | refine uE ?_ | refine uD ?_ _)); refine uW (cs := #[.bool false, .int .i64 0]) ?_ 0 _ rfl; (with_reducible repeat (first | refine uC ?_ _ | refine uE ?_ | refine uD ?_ _)); exact BK294.out) hb); have n4_ := Aside0.mk (uS (by repeat (first | (with_reducible first | exact HB.out | apply uG | apply uA | apply uF | refine uB ?_ GE287.out | refine uB ?_ GE294.out) | exact HB.out)) hb); clear HO283; clear HO290; clear BK287; clear BK294; clear HB; have HO283 := n0_; have HO290 := n1_; have BK287 := n2_; have BK294 := n3_; have HB := n4_; clear n0_ n1_ n2_ n3_ n4_; (try clear hb); (try clear hb2); (try clear hk); (try clear hi)))
    go_meet
    case rel => exact ⟨_, (true), (by first | rfl | (simp; done) | (simp [*]; done)), H', ⟨by first | omega | exact Nat.le_refl _⟩, ⟨by (with_reducible repeat (first | apply Kd.uN | apply Kd.uO | apply Kd.uP)); exact Kd.uZ HO290.out (fun _ hk => trivial)⟩, ⟨by (with_reducible repeat (first | refine uC ?_ _ | refine uE ?_ | refine uD ?_ _)); exact BK287.out⟩, ⟨by (with_reducible repeat (first | refine uC ?_ _ | refine uE ?_ | refine uD ?_ _)); exact BK294.out⟩, ⟨by repeat (first | (with_reducible first | exact HB.out | apply uG | apply uA | apply uF | refine uB ?_ GE287.out | refine uB ?_ GE294.out) | exact HB.out)⟩⟩
  case rest =>
    clear HC9
    try clear c1
    try clear c2
    try clear p2
    try clear c4
    try clear c4b0
    try clear c5
    try clear c14
    try clear c19
    try clear c22
    try clear c23
    try clear c25
    try clear c26
    try clear c27
    try clear c28
    try clear hcz14_0
    try clear hcz14_1
    try clear hcz20_0
    try clear hcz20_1
    try clear hcz24_0
    try clear hcz24_1
    try clear hcz25_0
    try clear hcz25_1
    try clear hcz28_0
    try clear hcz28_1
    try clear hcz29_0
    try clear hcz29_1
    try clear hfz14_0
    try clear hfz14_1
    try clear hfz20_0
    try clear hfz20_1
    try clear hfz24_0
    try clear hfz24_1
    try clear hfz25_0
    try clear hfz25_1
    try clear hfz28_0
    try clear hfz28_1
    try clear hfz29_0
    try clear hfz29_1
    obtain ⟨kq, x39_8, rfl, HA, HJ8, HO_8, BK287, BK294, HB⟩ := hcut
    cases kq with
    | zero => exact absurd HA.out (by simp [laws_FnExactResultAt.j0])
    | succ kj8 =>
      have H := HA.out
      clear HA
      simp only [laws_FnExactResultAt.j0] at H
      by_cases c31 : x39_8 = true
      · subst c31
        have H1 : (some false) = some true := by first | (rw [if_pos rfl] at H; exact H) | rfl
        clear H
        have H := H1
        clear H1
        exact absurd H (by simp)
      replace c31 := Bool.eq_false_iff.mpr c31
      subst c31
      have H1 : ((laws_toEntryS.f kj8 l0).bind fun t296 => ((laws_eqEntryS.f kj8 t288 t296).bind fun t299 => (if t299 = true then (some true) else (some false)))) = some true := by first | (rw [if_neg (show ¬ (false = true) by decide)] at H; exact H) | rfl
      clear H
      have H := H1
      clear H1
      replace H := Option.bind_eq_some_iff.mp H
      obtain ⟨t296, A320, H⟩ := H
      replace H : ((laws_eqEntryS.f kj8 t288 t296).bind fun t299 => (if t299 = true then (some true) else (some false))) = some true := H
      have A32 := Aside0.mk A320
      clear A320
      replace H := Option.bind_eq_some_iff.mp H
      obtain ⟨t299, A330, H⟩ := H
      replace H : (if t299 = true then (some true) else (some false)) = some true := H
      have A33 := Aside0.mk A330
      clear A330
      by_cases c34 : t299 = true
      rotate_left
      · replace c34 := Bool.eq_false_iff.mpr c34
        subst c34
        have H1 : (some false) = some true := by first | (rw [if_neg (show ¬ (false = true) by decide)] at H; exact H) | rfl
        clear H
        have H := H1
        clear H1
        exact absurd H (by simp)
      subst c34
      have H1 : (some true) = some true := by first | (rw [if_pos rfl] at H; exact H) | rfl
      clear H
      have H := H1
      clear H1
      go_wp2_with (first | ((with_reducible refine uX (f := 27) rfl ?_); refine vM (some 42) rfl rfl Try.func27 (by kernel_rfl) rfl #[.slice A0 l0.length c0] rfl (by (try simp only [vX, List.map_cons, List.map_nil]); first | done | rfl | (simp only [vZ, vY]; rfl)) ?_; (with_reducible refine (laws_toEntryS.calls kj8 _ _ l0 t296 _ ?side1 ?side2 A32.out).mono ?_); (case side1 => repeat (first | exact (Kd.vE HR0.out HB.out) | (with_reducible refine Kd.vQ ?_ _) | (with_reducible refine Kd.vP ?_ _) | (with_reducible refine Kd.vS ?_))); (case side2 => exact HC0.out); rintro e w35 ⟨v297, rfl, ho0, hb⟩; refine ⟨_, rfl, ?_⟩; have n0_ := Aside0.mk (Kd.R_elder' (by (with_reducible repeat (first | apply Kd.uN | apply Kd.uO | apply Kd.uP)); exact HO_8.out) (Kd.R_base ho0) hb); have n1_ := Aside0.mk (Kd.vO (Kd.R_new' ho0 (Kd.R_lt (by (with_reducible repeat (first | apply Kd.uN | apply Kd.uO | apply Kd.uP)); exact HO_8.out))) (uQ (by repeat (first | (with_reducible first | exact HB.out | apply uG | apply uA | apply uF | refine uB ?_ GE287.out | refine uB ?_ GE294.out) | exact HB.out)))); have n2_ := Aside0.mk (uR (g := gb287) (o := .cells #[.bool t284, .int .i64 t285] 33 (0, 0)) (by (with_reducible repeat (first | refine uC ?_ _ | refine uE ?_ | refine uD ?_ _)); exact BK287.out) hb); have n3_ := Aside0.mk (uR (g := gb294) (o := .cells #[.bool t291, .int .i64 t292] 33 (0, 0)) (by (with_reducible repeat (first | refine uC ?_ _ | refine uE ?_ | refine uD ?_ _)); exact BK294.out) hb); have n4_ := Aside0.mk (uS (by repeat (first | (with_reducible first | exact HB.out | apply uG | apply uA | apply uF | refine uB ?_ GE287.out | refine uB ?_ GE294.out) | exact HB.out)) hb); clear HO_8; clear BK287; clear BK294; clear HB; have HO_8 := n0_; have HO298 := n1_; have BK287 := n2_; have BK294 := n3_; have HB := n4_; clear n0_ n1_ n2_ n3_ n4_; (try clear hb); (try clear hb2); (try clear hk); (try clear hi); (try clear ho0); obtain ⟨Ao36, co36, eo36⟩ := Kd.vN HO298.out; subst eo36) | ((with_reducible refine uX (f := 29) rfl ?_); refine vM (some 43) rfl rfl Try.func29 (by kernel_rfl) rfl #[.slice Ao16 t288.length co16, .slice Ao36 t296.length co36] rfl (by (try simp only [vX, List.map_cons, List.map_nil]); first | done | rfl | (simp only [vZ, vY]; rfl)) ?_; (with_reducible refine (laws_eqEntryS.calls kj8 _ _ t288 _ _ t296 true _ ?side1 ?side2 ?side3 ?side4 A33.out).mono ?_); (case side1 => repeat (first | exact (Kd.vH HO_8.out).2.2 | (with_reducible refine Kd.vQ ?_ _) | (with_reducible refine Kd.vP ?_ _) | (with_reducible refine Kd.vS ?_))); (case side2 => exact (Kd.vH HO_8.out).2.1); (case side3 => repeat (first | exact (Kd.vH HO298.out).2.2 | (with_reducible refine Kd.vQ ?_ _) | (with_reducible refine Kd.vP ?_ _) | (with_reducible refine Kd.vS ?_))); (case side4 => exact (Kd.vH HO298.out).2.1); rintro e w37 ⟨rfl, hb⟩; refine ⟨_, rfl, ?_⟩; have n0_ := Aside0.mk (Kd.vD (by (with_reducible repeat (first | apply Kd.uN | apply Kd.uO | apply Kd.uP)); exact HO_8.out) hb); have n1_ := Aside0.mk (Kd.vD (by (with_reducible repeat (first | apply Kd.uN | apply Kd.uO | apply Kd.uP)); exact HO298.out) hb); have n2_ := Aside0.mk (uR (g := gb287) (o := .cells #[.bool t284, .int .i64 t285] 33 (0, 0)) (by (with_reducible repeat (first | refine uC ?_ _ | refine uE ?_ | refine uD ?_ _)); exact BK287.out) hb); have n3_ := Aside0.mk (uR (g := gb294) (o := .cells #[.bool t291, .int .i64 t292] 33 (0, 0)) (by (with_reducible repeat (first | refine uC ?_ _ | refine uE ?_ | refine uD ?_ _)); exact BK294.out) hb); have n4_ := Aside0.mk (uS (by repeat (first | (with_reducible first | exact HB.out | apply uG | apply uA | apply uF | refine uB ?_ GE287.out | refine uB ?_ GE294.out) | exact HB.out)) hb); clear HO_8; clear HO298; clear BK287; clear BK294; clear HB; have HO_8 := n0_; have HO298 := n1_; have BK287 := n2_; have BK294 := n3_; have HB := n4_; clear n0_ n1_ n2_ n3_ n4_; (try clear hb); (try clear hb2); (try clear hk); (try clear hi)))
      go_ret
      exact ⟨by first | rfl | (simp [errW_none, errW_some] <;> rfl) | (simp [*, errW_none, errW_some] <;> rfl), by repeat (first | (with_reducible first | exact HB.out | apply uG | apply uA | apply uF | refine uB ?_ GE287.out | refine uB ?_ GE294.out) | exact HB.out)⟩

end Go.Proofs.Ytcikahnmiiichaa.T
