/- Go functions as Lean functions, and the proof that the code comes to them: written by a program of this session out of the translation. -/
import Derived.Test.YtcikahnmiiichaaT0
namespace Go.Proofs.Ytcikahnmiiichaa.T
open List renaming setIfInBounds_toArray → vU, set_cons_zero → vV, set_cons_succ → vW, map_toArray → vX, length_take → vY, length_drop → vZ
open Go.World renaming block_lt_of_cell? → yA
open Go.RowKit Go.Proofs.YtcikahnmiiichaaW.PrintWords Go.Proofs.YtcikahnmiiichaaW.PrintLast Go.Proofs.YtcikahnmiiichaaW.PrintMore
attribute [local go_sem] max2_int min2_int max_two min_two max_three min_three max_four min_four   -- for this text's walks alone
set_option linter.unusedVariables false
set_option linter.unusedSimpArgs false

/-! ### laws_toOp: function 11 -/
def laws_toOp.f (a0_0 : Int) (a0_1 : Int) (a0_2 : Int) (a0_3 : Int) (a0_4 : Int) (a0_5 : Int) : Option (Int × Int × Int × Int × Int × Int) := some (a0_0, a0_1, a0_2, a0_3, a0_4, a0_5)
set_option maxHeartbeats 8000000 in
set_option maxRecDepth 100000 in
theorem laws_toOp.calls (a0_0 : Int) (a0_1 : Int) (a0_2 : Int) (a0_3 : Int) (a0_4 : Int) (a0_5 : Int) (r1 : Int) (r2 : Int) (r3 : Int) (r4 : Int) (r5 : Int) (r6 : Int) (w : World) (h : laws_toOp.f a0_0 a0_1 a0_2 a0_3 a0_4 a0_5 = some (r1, r2, r3, r4, r5, r6)) :
    Calls Try.prog 11 #[.agg #[.int .i64 a0_0, .int .i64 a0_1, .int .i64 a0_2, .int .i64 a0_3, .int .i64 a0_4, .int .i64 a0_5]] w fun e w' => e = .returned (.agg #[.int .i64 r1, .int .i64 r2, .int .i64 r3, .int .i64 r4, .int .i64 r5, .int .i64 r6]) ∧ Below w.heap.size w w' := by
  have hu27 := Try.underlying27
  have hu37 := Try.underlying37
  have HB := Aside0.mk (Below.refl w.heap.size w)
  have H : (some (a0_0, a0_1, a0_2, a0_3, a0_4, a0_5)) = some (r1, r2, r3, r4, r5, r6) := h
  clear h
  simp only [Option.some.injEq, Prod.mk.injEq] at H
  obtain ⟨rfl, rfl, rfl, rfl, rfl, rfl⟩ := H
  go_enter Try.func11, Try.ntmps11
  go_wp2_with (first | ((with_reducible refine uU (N := 1) rfl ?_); refine uT ?hg (N := 1) ?hd (cs := #[.int .i64 a0_0, .int .i64 a0_1, .int .i64 a0_2, .int .i64 a0_3, .int .i64 a0_4, .int .i64 a0_5]) (t := 27) ?hr ?_; (case hd => rfl); (case hg => rfl); (case hr => first | (go_simp; done) | (go_simp; rfl)); intro gb178 hg w2 hbox hb; have n0_ := Aside0.mk (uS (by repeat (first | (with_reducible first | exact HB.out | apply uG | apply uA | apply uF) | exact HB.out)) hb); have n1_ := Aside0.mk (hbox); have n2_ := Aside0.mk ((by rw [hg]; exact (uQ (by repeat (first | (with_reducible first | exact HB.out | apply uG | apply uA | apply uF) | exact HB.out))) : w.heap.size ≤ gb178)); have n3_ := Aside0.mk ((by rw [hg]; exact (uQ (by repeat (first | (with_reducible first | exact HB.out | apply uG | apply uA | apply uF) | exact HB.out))) : w.heap.size ≤ gb178)); clear HB; have HB := n0_; have BK178 := n1_; have GW178 := n2_; have GE178 := n3_; clear n0_ n1_ n2_ n3_; clear hb hbox hg) | ((with_reducible refine uU (N := 2) rfl ?_); refine uT ?hg (N := 2) ?hd (cs := #[.int .i64 0, .int .i64 0, .int .i64 0, .int .i64 0, .int .i64 0, .int .i64 0]) (t := 37) ?hr ?_; (case hd => rfl); (case hg => rfl); (case hr => first | (go_simp; done) | (go_simp; rfl)); intro gb179 hg w3 hbox hb; have n0_ := Aside0.mk (uR (g := gb178) (o := .cells #[.int .i64 a0_0, .int .i64 a0_1, .int .i64 a0_2, .int .i64 a0_3, .int .i64 a0_4, .int .i64 a0_5] 27 (0, 0)) (by (with_reducible repeat (first | refine uC ?_ _ | refine uE ?_ | refine uD ?_ _)); exact BK178.out) hb); have n1_ := Aside0.mk (uS (by repeat (first | (with_reducible first | exact HB.out | apply uG | apply uA | apply uF | refine uB ?_ GE178.out) | exact HB.out)) hb); have n2_ := Aside0.mk (hbox); have n3_ := Aside0.mk ((by rw [hg]; exact (uQ (by repeat (first | (with_reducible first | exact HB.out | apply uG | apply uA | apply uF | refine uB ?_ GE178.out) | exact HB.out))) : w.heap.size ≤ gb179)); have n4_ := Aside0.mk ((by rw [hg]; exact (uQ (by repeat (first | (with_reducible first | exact HB.out | apply uG | apply uA | apply uF | refine uB ?_ GE178.out) | exact HB.out))) : w.heap.size ≤ gb179)); have n5_ := Aside0.mk ((by rw [hg]; exact Nat.ne_of_lt (uV (g := gb178) (o := .cells #[.int .i64 a0_0, .int .i64 a0_1, .int .i64 a0_2, .int .i64 a0_3, .int .i64 a0_4, .int .i64 a0_5] 27 (0, 0)) (by (with_reducible repeat (first | refine uC ?_ _ | refine uE ?_ | refine uD ?_ _)); exact BK178.out)) : gb178 ≠ gb179)); have n6_ := Aside0.mk ((by rw [hg]; exact Nat.ne_of_gt (uV (g := gb178) (o := .cells #[.int .i64 a0_0, .int .i64 a0_1, .int .i64 a0_2, .int .i64 a0_3, .int .i64 a0_4, .int .i64 a0_5] 27 (0, 0)) (by (with_reducible repeat (first | refine uC ?_ _ | refine uE ?_ | refine uD ?_ _)); exact BK178.out)) : gb179 ≠ gb178)); clear BK178; clear HB; have BK178 := n0_; have HB := n1_; have BK179 := n2_; have GW179 := n3_; have GE179 := n4_; have NB178_179 := n5_; have NB179_178 := n6_; clear n0_ n1_ n2_ n3_ n4_ n5_ n6_; clear hb hbox hg) | ((with_reducible refine uU (N := 3) rfl ?_); refine uT ?hg (N := 3) ?hd (cs := #[.int .i64 0, .int .i64 0, .int .i64 0, .int .i64 0, .int .i64 0, .int .i64 0]) (t := 37) ?hr ?_; (case hd => rfl); (case hg => rfl); (case hr => first | (go_simp; done) | (go_simp; rfl)); intro gb180 hg w4 hbox hb; have n0_ := Aside0.mk (uR (g := gb178) (o := .cells #[.int .i64 a0_0, .int .i64 a0_1, .int .i64 a0_2, .int .i64 a0_3, .int .i64 a0_4, .int .i64 a0_5] 27 (0, 0)) (by (with_reducible repeat (first | refine uC ?_ _ | refine uE ?_ | refine uD ?_ _)); exact BK178.out) hb); have n1_ := Aside0.mk (uR (g := gb179) (o := .cells #[.int .i64 0, .int .i64 0, .int .i64 0, .int .i64 0, .int .i64 0, .int .i64 0] 37 (0, 0)) (by (with_reducible repeat (first | refine uC ?_ _ | refine uE ?_ | refine uD ?_ _)); exact BK179.out) hb); have n2_ := Aside0.mk (uS (by repeat (first | (with_reducible first | exact HB.out | apply uG | apply uA | apply uF | refine uB ?_ GE178.out | refine uB ?_ GE179.out) | exact HB.out)) hb); have n3_ := Aside0.mk (hbox); have n4_ := Aside0.mk ((by rw [hg]; exact (uQ (by repeat (first | (with_reducible first | exact HB.out | apply uG | apply uA | apply uF | refine uB ?_ GE178.out | refine uB ?_ GE179.out) | exact HB.out))) : w.heap.size ≤ gb180)); have n5_ := Aside0.mk ((by rw [hg]; exact (uQ (by repeat (first | (with_reducible first | exact HB.out | apply uG | apply uA | apply uF | refine uB ?_ GE178.out | refine uB ?_ GE179.out) | exact HB.out))) : w.heap.size ≤ gb180)); have n6_ := Aside0.mk ((by rw [hg]; exact Nat.ne_of_lt (uV (g := gb178) (o := .cells #[.int .i64 a0_0, .int .i64 a0_1, .int .i64 a0_2, .int .i64 a0_3, .int .i64 a0_4, .int .i64 a0_5] 27 (0, 0)) (by (with_reducible repeat (first | refine uC ?_ _ | refine uE ?_ | refine uD ?_ _)); exact BK178.out)) : gb178 ≠ gb180)); have n7_ := Aside0.mk ((by rw [hg]; exact Nat.ne_of_gt (uV (g := gb178) (o := .cells #[.int .i64 a0_0, .int .i64 a0_1, .int .i64 a0_2, .int .i64 a0_3, .int .i64 a0_4, .int .i64 a0_5] 27 (0, 0)) (by (with_reducible repeat (first | refine uC ?_ _ | refine uE ?_ | refine uD ?_ _)); exact BK178.out)) : gb180 ≠ gb178)); have n8_ := Aside0.mk ((by rw [hg]; exact Nat.ne_of_lt (uV (g := gb179) (o := .cells #[.int .i64 0, .int .i64 0, .int .i64 0, .int .i64 0, .int .i64 0, .int .i64 0] 37 (0, 0)) (by (with_reducible repeat (first | refine uC ?_ _ | refine uE ?_ | refine uD ?_ _)); exact BK179.out)) : gb179 ≠ gb180)); have n9_ := Aside0.mk ((by rw [hg]; exact Nat.ne_of_gt (uV (g := gb179) (o := .cells #[.int .i64 0, .int .i64 0, .int .i64 0, .int .i64 0, .int .i64 0, .int .i64 0] 37 (0, 0)) (by (with_reducible repeat (first | refine uC ?_ _ | refine uE ?_ | refine uD ?_ _)); exact BK179.out)) : gb180 ≠ gb179)); clear BK178; clear BK179; clear HB; have BK178 := n0_; have BK179 := n1_; have HB := n2_; have BK180 := n3_; have GW180 := n4_; have GE180 := n5_; have NB178_180 := n6_; have NB180_178 := n7_; have NB179_180 := n8_; have NB180_179 := n9_; clear n0_ n1_ n2_ n3_ n4_ n5_ n6_ n7_ n8_ n9_; clear hb hbox hg; have hnb5 := NB178_179.out; have hnc5 := NB179_178.out; have hnb6 := NB178_180.out; have hnc6 := NB180_178.out; have hcz7_0 : w4.cell? ⟨gb178, 0, none⟩ = some (.int .i64 a0_0) := (uI BK178.out 0).trans rfl; have hcz7_1 : w4.cell? ⟨gb178, 1, none⟩ = some (.int .i64 a0_1) := (uI BK178.out 1).trans rfl; have hcz7_2 : w4.cell? ⟨gb178, 2, none⟩ = some (.int .i64 a0_2) := (uI BK178.out 2).trans rfl; have hcz7_3 : w4.cell? ⟨gb178, 3, none⟩ = some (.int .i64 a0_3) := (uI BK178.out 3).trans rfl; have hcz7_4 : w4.cell? ⟨gb178, 4, none⟩ = some (.int .i64 a0_4) := (uI BK178.out 4).trans rfl; have hcz7_5 : w4.cell? ⟨gb178, 5, none⟩ = some (.int .i64 a0_5) := (uI BK178.out 5).trans rfl; have hfz7_0 := uK BK178.out 0; have hfz7_1 := uK BK178.out 1; have hfz7_2 := uK BK178.out 2; have hfz7_3 := uK BK178.out 3; have hfz7_4 := uK BK178.out 4; have hfz7_5 := uK BK178.out 5; have hnb8 := NB180_179.out; have hnc8 := NB179_180.out; have hcz9_0 : w4.cell? ⟨gb180, 0, none⟩ = some (.int .i64 0) := (uI BK180.out 0).trans rfl; have hcz9_1 : w4.cell? ⟨gb180, 1, none⟩ = some (.int .i64 0) := (uI BK180.out 1).trans rfl; have hcz9_2 : w4.cell? ⟨gb180, 2, none⟩ = some (.int .i64 0) := (uI BK180.out 2).trans rfl; have hcz9_3 : w4.cell? ⟨gb180, 3, none⟩ = some (.int .i64 0) := (uI BK180.out 3).trans rfl; have hcz9_4 : w4.cell? ⟨gb180, 4, none⟩ = some (.int .i64 0) := (uI BK180.out 4).trans rfl; have hcz9_5 : w4.cell? ⟨gb180, 5, none⟩ = some (.int .i64 0) := (uI BK180.out 5).trans rfl; have hfz9_0 := uK BK180.out 0; have hfz9_1 := uK BK180.out 1; have hfz9_2 := uK BK180.out 2; have hfz9_3 := uK BK180.out 3; have hfz9_4 := uK BK180.out 4; have hfz9_5 := uK BK180.out 5; have hcz10_0 : w4.cell? ⟨gb179, 0, none⟩ = some (.int .i64 0) := (uI BK179.out 0).trans rfl; have hcz10_1 : w4.cell? ⟨gb179, 1, none⟩ = some (.int .i64 0) := (uI BK179.out 1).trans rfl; have hcz10_2 : w4.cell? ⟨gb179, 2, none⟩ = some (.int .i64 0) := (uI BK179.out 2).trans rfl; have hcz10_3 : w4.cell? ⟨gb179, 3, none⟩ = some (.int .i64 0) := (uI BK179.out 3).trans rfl; have hcz10_4 : w4.cell? ⟨gb179, 4, none⟩ = some (.int .i64 0) := (uI BK179.out 4).trans rfl; have hcz10_5 : w4.cell? ⟨gb179, 5, none⟩ = some (.int .i64 0) := (uI BK179.out 5).trans rfl; have hfz10_0 := uK BK179.out 0; have hfz10_1 := uK BK179.out 1; have hfz10_2 := uK BK179.out 2; have hfz10_3 := uK BK179.out 3; have hfz10_4 := uK BK179.out 4; have hfz10_5 := uK BK179.out 5))
  refine bodyPost_ret (results_cell_row rfl _ _ gb179 37 #[.int .i64 a0_0, .int .i64 a0_1, .int .i64 a0_2, .int .i64 a0_3, .int .i64 a0_4, .int .i64 a0_5] (0, 0) _ rfl (by (with_reducible repeat (first | refine uC ?_ _ | refine uE ?_ | refine uD ?_ _)); refine uW (cs := #[.int .i64 a0_0, .int .i64 a0_1, .int .i64 a0_2, .int .i64 a0_3, .int .i64 a0_4, .int .i64 0]) ?_ 5 _ rfl; (with_reducible repeat (first | refine uC ?_ _ | refine uE ?_ | refine uD ?_ _)); refine uW (cs := #[.int .i64 a0_0, .int .i64 a0_1, .int .i64 a0_2, .int .i64 a0_3, .int .i64 0, .int .i64 0]) ?_ 4 _ rfl; (with_reducible repeat (first | refine uC ?_ _ | refine uE ?_ | refine uD ?_ _)); refine uW (cs := #[.int .i64 a0_0, .int .i64 a0_1, .int .i64 a0_2, .int .i64 0, .int .i64 0, .int .i64 0]) ?_ 3 _ rfl; (with_reducible repeat (first | refine uC ?_ _ | refine uE ?_ | refine uD ?_ _)); refine uW (cs := #[.int .i64 a0_0, .int .i64 a0_1, .int .i64 0, .int .i64 0, .int .i64 0, .int .i64 0]) ?_ 2 _ rfl; (with_reducible repeat (first | refine uC ?_ _ | refine uE ?_ | refine uD ?_ _)); refine uW (cs := #[.int .i64 a0_0, .int .i64 0, .int .i64 0, .int .i64 0, .int .i64 0, .int .i64 0]) ?_ 1 _ rfl; (with_reducible repeat (first | refine uC ?_ _ | refine uE ?_ | refine uD ?_ _)); refine uW (cs := #[.int .i64 0, .int .i64 0, .int .i64 0, .int .i64 0, .int .i64 0, .int .i64 0]) ?_ 0 _ rfl; (with_reducible repeat (first | refine uC ?_ _ | refine uE ?_ | refine uD ?_ _)); refine vF ?_ NB179_180.out _; (with_reducible repeat (first | refine uC ?_ _ | refine uE ?_ | refine uD ?_ _)); refine vF ?_ NB179_180.out _; (with_reducible repeat (first | refine uC ?_ _ | refine uE ?_ | refine uD ?_ _)); refine vF ?_ NB179_180.out _; (with_reducible repeat (first | refine uC ?_ _ | refine uE ?_ | refine uD ?_ _)); refine vF ?_ NB179_180.out _; (with_reducible repeat (first | refine uC ?_ _ | refine uE ?_ | refine uD ?_ _)); refine vF ?_ NB179_180.out _; (with_reducible repeat (first | refine uC ?_ _ | refine uE ?_ | refine uD ?_ _)); refine vF ?_ NB179_180.out _; (with_reducible repeat (first | refine uC ?_ _ | refine uE ?_ | refine uD ?_ _)); exact BK179.out) Try.underlying37 rfl (by kernel_rfl)) rfl ?_
  exact ⟨by first | rfl | (simp [errW_none, errW_some] <;> rfl) | (simp [*, errW_none, errW_some] <;> rfl), by repeat (first | (with_reducible first | exact HB.out | apply uG | apply uA | apply uF | refine uB ?_ GE178.out | refine uB ?_ GE179.out | refine uB ?_ GE180.out) | exact HB.out)⟩

/-! ### laws_toEntry: function 68 -/
def laws_toEntry.f (a0_0 : Int) (a0_1 : Int) (a0_2 : Int) (a0_3 : Int) (a0_4 : Int) (a0_5 : Int) (a0_6 : Int) : Option (Int × Int × Int × Int × Int × Int × Int) := (laws_toOp.f a0_1 a0_2 a0_3 a0_4 a0_5 a0_6).bind fun bt184 => (some (a0_0, bt184.1, bt184.2.1, bt184.2.2.1, bt184.2.2.2.1, bt184.2.2.2.2.1, bt184.2.2.2.2.2))
set_option maxHeartbeats 8000000 in
set_option maxRecDepth 100000 in
theorem laws_toEntry.calls (a0_0 : Int) (a0_1 : Int) (a0_2 : Int) (a0_3 : Int) (a0_4 : Int) (a0_5 : Int) (a0_6 : Int) (r1 : Int) (r2 : Int) (r3 : Int) (r4 : Int) (r5 : Int) (r6 : Int) (r7 : Int) (w : World) (h : laws_toEntry.f a0_0 a0_1 a0_2 a0_3 a0_4 a0_5 a0_6 = some (r1, r2, r3, r4, r5, r6, r7)) :
    Calls Try.prog 68 #[.agg #[.int .i64 a0_0, .int .i64 a0_1, .int .i64 a0_2, .int .i64 a0_3, .int .i64 a0_4, .int .i64 a0_5, .int .i64 a0_6]] w fun e w' => e = .returned (.agg #[.int .i64 r1, .int .i64 r2, .int .i64 r3, .int .i64 r4, .int .i64 r5, .int .i64 r6, .int .i64 r7]) ∧ Below w.heap.size w w' := by
  have hu97 := Try.underlying97
  have hu72 := Try.underlying72
  have hu27 := Try.underlying27
  have hu37 := Try.underlying37
  have HB := Aside0.mk (Below.refl w.heap.size w)
  have H : ((laws_toOp.f a0_1 a0_2 a0_3 a0_4 a0_5 a0_6).bind fun bt184 => (some (a0_0, bt184.1, bt184.2.1, bt184.2.2.1, bt184.2.2.2.1, bt184.2.2.2.2.1, bt184.2.2.2.2.2))) = some (r1, r2, r3, r4, r5, r6, r7) := h
  clear h
  replace H := Option.bind_eq_some_iff.mp H
  obtain ⟨⟨t184, t185, t186, t187, t188, t189⟩, A20, H⟩ := H
  replace H : (some (a0_0, t184, t185, t186, t187, t188, t189)) = some (r1, r2, r3, r4, r5, r6, r7) := H
  have A2 := Aside0.mk A20
  clear A20
  simp only [Option.some.injEq, Prod.mk.injEq] at H
  obtain ⟨rfl, rfl, rfl, rfl, rfl, rfl, rfl⟩ := H
  go_enter Try.func68, Try.ntmps68
  go_wp2_with (first | ((with_reducible refine uU (N := 1) rfl ?_); refine uT ?hg (N := 1) ?hd (cs := #[.int .i64 a0_0, .int .i64 a0_1, .int .i64 a0_2, .int .i64 a0_3, .int .i64 a0_4, .int .i64 a0_5, .int .i64 a0_6]) (t := 97) ?hr ?_; (case hd => rfl); (case hg => rfl); (case hr => first | (go_simp; done) | (go_simp; rfl)); intro gb181 hg w3 hbox hb; have n0_ := Aside0.mk (uS (by repeat (first | (with_reducible first | exact HB.out | apply uG | apply uA | apply uF) | exact HB.out)) hb); have n1_ := Aside0.mk (hbox); have n2_ := Aside0.mk ((by rw [hg]; exact (uQ (by repeat (first | (with_reducible first | exact HB.out | apply uG | apply uA | apply uF) | exact HB.out))) : w.heap.size ≤ gb181)); have n3_ := Aside0.mk ((by rw [hg]; exact (uQ (by repeat (first | (with_reducible first | exact HB.out | apply uG | apply uA | apply uF) | exact HB.out))) : w.heap.size ≤ gb181)); clear HB; have HB := n0_; have BK181 := n1_; have GW181 := n2_; have GE181 := n3_; clear n0_ n1_ n2_ n3_; clear hb hbox hg) | ((with_reducible refine uU (N := 2) rfl ?_); refine uT ?hg (N := 2) ?hd (cs := #[.int .i64 0, .int .i64 0, .int .i64 0, .int .i64 0, .int .i64 0, .int .i64 0, .int .i64 0]) (t := 72) ?hr ?_; (case hd => rfl); (case hg => rfl); (case hr => first | (go_simp; done) | (go_simp; rfl)); intro gb182 hg w4 hbox hb; have n0_ := Aside0.mk (uR (g := gb181) (o := .cells #[.int .i64 a0_0, .int .i64 a0_1, .int .i64 a0_2, .int .i64 a0_3, .int .i64 a0_4, .int .i64 a0_5, .int .i64 a0_6] 97 (0, 0)) (by (with_reducible repeat (first | refine uC ?_ _ | refine uE ?_ | refine uD ?_ _)); exact BK181.out) hb); have n1_ := Aside0.mk (uS (by repeat (first | (with_reducible first | exact HB.out | apply uG | apply uA | apply uF | refine uB ?_ GE181.out) | exact HB.out)) hb); have n2_ := Aside0.mk (hbox); have n3_ := Aside0.mk ((by rw [hg]; exact (uQ (by repeat (first | (with_reducible first | exact HB.out | apply uG | apply uA | apply uF | refine uB ?_ GE181.out) | exact HB.out))) : w.heap.size ≤ gb182)); have n4_ := Aside0.mk ((by rw [hg]; exact (uQ (by repeat (first | (with_reducible first | exact HB.out | apply uG | apply uA | apply uF | refine uB ?_ GE181.out) | exact HB.out))) : w.heap.size ≤ gb182)); have n5_ := Aside0.mk ((by rw [hg]; exact Nat.ne_of_lt (uV (g := gb181) (o := .cells #[.int .i64 a0_0, .int .i64 a0_1, .int .i64 a0_2, .int .i64 a0_3, .int .i64 a0_4, .int .i64 a0_5, .int .i64 a0_6] 97 (0, 0)) (by (with_reducible repeat (first | refine uC ?_ _ | refine uE ?_ | refine uD ?_ _)); exact BK181.out)) : gb181 ≠ gb182)); have n6_ := Aside0.mk ((by rw [hg]; exact Nat.ne_of_gt (uV (g := gb181) (o := .cells #[.int .i64 a0_0, .int .i64 a0_1, .int .i64 a0_2, .int .i64 a0_3, .int .i64 a0_4, .int .i64 a0_5, .int .i64 a0_6] 97 (0, 0)) (by (with_reducible repeat (first | refine uC ?_ _ | refine uE ?_ | refine uD ?_ _)); exact BK181.out)) : gb182 ≠ gb181)); clear BK181; clear HB; have BK181 := n0_; have HB := n1_; have BK182 := n2_; have GW182 := n3_; have GE182 := n4_; have NB181_182 := n5_; have NB182_181 := n6_; clear n0_ n1_ n2_ n3_ n4_ n5_ n6_; clear hb hbox hg) | ((with_reducible refine uU (N := 3) rfl ?_); refine uT ?hg (N := 3) ?hd (cs := #[.int .i64 0, .int .i64 0, .int .i64 0, .int .i64 0, .int .i64 0, .int .i64 0, .int .i64 0]) (t := 72) ?hr ?_; (case hd => rfl); (case hg => rfl); (case hr => first | (go_simp; done) | (go_simp; rfl)); intro gb183 hg w5 hbox hb; have n0_ := Aside0.mk (uR (g := gb181) (o := .cells #[.int .i64 a0_0, .int .i64 a0_1, .int .i64 a0_2, .int .i64 a0_3, .int .i64 a0_4, .int .i64 a0_5, .int .i64 a0_6] 97 (0, 0)) (by (with_reducible repeat (first | refine uC ?_ _ | refine uE ?_ | refine uD ?_ _)); exact BK181.out) hb); have n1_ := Aside0.mk (uR (g := gb182) (o := .cells #[.int .i64 0, .int .i64 0, .int .i64 0, .int .i64 0, .int .i64 0, .int .i64 0, .int .i64 0] 72 (0, 0)) (by (with_reducible repeat (first | refine uC ?_ _ | refine uE ?_ | refine uD ?_ _)); exact BK182.out) hb); have n2_ := Aside0.mk (uS (by repeat (first | (with_reducible first | exact HB.out | apply uG | apply uA | apply uF | refine uB ?_ GE181.out | refine uB ?_ GE182.out) | exact HB.out)) hb); have n3_ := Aside0.mk (hbox); have n4_ := Aside0.mk ((by rw [hg]; exact (uQ (by repeat (first | (with_reducible first | exact HB.out | apply uG | apply uA | apply uF | refine uB ?_ GE181.out | refine uB ?_ GE182.out) | exact HB.out))) : w.heap.size ≤ gb183)); have n5_ := Aside0.mk ((by rw [hg]; exact (uQ (by repeat (first | (with_reducible first | exact HB.out | apply uG | apply uA | apply uF | refine uB ?_ GE181.out | refine uB ?_ GE182.out) | exact HB.out))) : w.heap.size ≤ gb183)); have n6_ := Aside0.mk ((by rw [hg]; exact Nat.ne_of_lt (uV (g := gb181) (o := .cells #[.int .i64 a0_0, .int .i64 a0_1, .int .i64 a0_2, .int .i64 a0_3, .int .i64 a0_4, .int .i64 a0_5, .int .i64 a0_6] 97 (0, 0)) (by (with_reducible repeat (first | refine uC ?_ _ | refine uE ?_ | refine uD ?_ _)); exact BK181.out)) : gb181 ≠ gb183)); have n7_ := Aside0.mk ((by rw [hg]; exact Nat.ne_of_gt (uV (g := gb181) (o := .cells #[.int .i64 a0_0, .int .i64 a0_1, .int .i64 a0_2, .int .i64 a0_3, .int .i64 a0_4, .int .i64 a0_5, .int .i64 a0_6] 97 (0, 0)) (by (with_reducible repeat (first | refine uC ?_ _ | refine uE ?_ | refine uD ?_ _)); exact BK181.out)) : gb183 ≠ gb181)); have n8_ := Aside0.mk ((by rw [hg]; exact Nat.ne_of_lt (uV (g := gb182) (o := .cells #[.int .i64 0, .int .i64 0, .int .i64 0, .int .i64 0, .int .i64 0, .int .i64 0, .int .i64 0] 72 (0, 0)) (by (with_reducible repeat (first | refine uC ?_ _ | refine uE ?_ | refine uD ?_ _)); exact BK182.out)) : gb182 ≠ gb183)); have n9_ := Aside0.mk ((by rw [hg]; exact Nat.ne_of_gt (uV (g := gb182) (o := .cells #[.int .i64 0, .int .i64 0, .int .i64 0, .int .i64 0, .int .i64 0, .int .i64 0, .int .i64 0] 72 (0, 0)) (by (with_reducible repeat (first | refine uC ?_ _ | refine uE ?_ | refine uD ?_ _)); exact BK182.out)) : gb183 ≠ gb182)); clear BK181; clear BK182; clear HB; have BK181 := n0_; have BK182 := n1_; have HB := n2_; have BK183 := n3_; have GW183 := n4_; have GE183 := n5_; have NB181_183 := n6_; have NB183_181 := n7_; have NB182_183 := n8_; have NB183_182 := n9_; clear n0_ n1_ n2_ n3_ n4_ n5_ n6_ n7_ n8_ n9_; clear hb hbox hg; have hnb6 := NB181_182.out; have hnc6 := NB182_181.out; have hnb7 := NB181_183.out; have hnc7 := NB183_181.out; have hcz8_0 : w5.cell? ⟨gb181, 0, none⟩ = some (.int .i64 a0_0) := (uI BK181.out 0).trans rfl; have hcz8_1 : w5.cell? ⟨gb181, 1, none⟩ = some (.int .i64 a0_1) := (uI BK181.out 1).trans rfl; have hcz8_2 : w5.cell? ⟨gb181, 2, none⟩ = some (.int .i64 a0_2) := (uI BK181.out 2).trans rfl; have hcz8_3 : w5.cell? ⟨gb181, 3, none⟩ = some (.int .i64 a0_3) := (uI BK181.out 3).trans rfl; have hcz8_4 : w5.cell? ⟨gb181, 4, none⟩ = some (.int .i64 a0_4) := (uI BK181.out 4).trans rfl; have hcz8_5 : w5.cell? ⟨gb181, 5, none⟩ = some (.int .i64 a0_5) := (uI BK181.out 5).trans rfl; have hcz8_6 : w5.cell? ⟨gb181, 6, none⟩ = some (.int .i64 a0_6) := (uI BK181.out 6).trans rfl; have hfz8_0 := uK BK181.out 0; have hfz8_1 := uK BK181.out 1; have hfz8_2 := uK BK181.out 2; have hfz8_3 := uK BK181.out 3; have hfz8_4 := uK BK181.out 4; have hfz8_5 := uK BK181.out 5; have hfz8_6 := uK BK181.out 6; have hnb9 := NB183_182.out; have hnc9 := NB182_183.out; have hcz10_0 : w5.cell? ⟨gb183, 0, none⟩ = some (.int .i64 0) := (uI BK183.out 0).trans rfl; have hcz10_1 : w5.cell? ⟨gb183, 1, none⟩ = some (.int .i64 0) := (uI BK183.out 1).trans rfl; have hcz10_2 : w5.cell? ⟨gb183, 2, none⟩ = some (.int .i64 0) := (uI BK183.out 2).trans rfl; have hcz10_3 : w5.cell? ⟨gb183, 3, none⟩ = some (.int .i64 0) := (uI BK183.out 3).trans rfl; have hcz10_4 : w5.cell? ⟨gb183, 4, none⟩ = some (.int .i64 0) := (uI BK183.out 4).trans rfl; have hcz10_5 : w5.cell? ⟨gb183, 5, none⟩ = some (.int .i64 0) := (uI BK183.out 5).trans rfl; have hcz10_6 : w5.cell? ⟨gb183, 6, none⟩ = some (.int .i64 0) := (uI BK183.out 6).trans rfl; have hfz10_0 := uK BK183.out 0; have hfz10_1 := uK BK183.out 1; have hfz10_2 := uK BK183.out 2; have hfz10_3 := uK BK183.out 3; have hfz10_4 := uK BK183.out 4; have hfz10_5 := uK BK183.out 5; have hfz10_6 := uK BK183.out 6) | ((with_reducible refine uX (f := 11) rfl ?_); refine vM (some 9) rfl rfl Try.func11 (by kernel_rfl) rfl #[.agg #[.int .i64 a0_1, .int .i64 a0_2, .int .i64 a0_3, .int .i64 a0_4, .int .i64 a0_5, .int .i64 a0_6]] rfl (by (try simp only [vX, List.map_cons, List.map_nil]); first | done | rfl | (simp only [vZ, vY]; rfl)) ?_; (with_reducible refine (laws_toOp.calls a0_1 a0_2 a0_3 a0_4 a0_5 a0_6 t184 t185 t186 t187 t188 t189 _ A2.out).mono ?_); rintro e w11 ⟨rfl, hb⟩; refine ⟨_, rfl, ?_⟩; have n0_ := Aside0.mk (uR (g := gb181) (o := .cells #[.int .i64 a0_0, .int .i64 a0_1, .int .i64 a0_2, .int .i64 a0_3, .int .i64 a0_4, .int .i64 a0_5, .int .i64 a0_6] 97 (0, 0)) (by (with_reducible repeat (first | refine uC ?_ _ | refine uE ?_ | refine uD ?_ _)); refine vF ?_ NB181_183.out _; (with_reducible repeat (first | refine uC ?_ _ | refine uE ?_ | refine uD ?_ _)); exact BK181.out) hb); have n1_ := Aside0.mk (uR (g := gb182) (o := .cells #[.int .i64 0, .int .i64 0, .int .i64 0, .int .i64 0, .int .i64 0, .int .i64 0, .int .i64 0] 72 (0, 0)) (by (with_reducible repeat (first | refine uC ?_ _ | refine uE ?_ | refine uD ?_ _)); refine vF ?_ NB182_183.out _; (with_reducible repeat (first | refine uC ?_ _ | refine uE ?_ | refine uD ?_ _)); exact BK182.out) hb); have n2_ := Aside0.mk (uR (g := gb183) (o := .cells #[.int .i64 a0_0, .int .i64 0, .int .i64 0, .int .i64 0, .int .i64 0, .int .i64 0, .int .i64 0] 72 (0, 0)) (by (with_reducible repeat (first | refine uC ?_ _ | refine uE ?_ | refine uD ?_ _)); refine uW (cs := #[.int .i64 0, .int .i64 0, .int .i64 0, .int .i64 0, .int .i64 0, .int .i64 0, .int .i64 0]) ?_ 0 _ rfl; (with_reducible repeat (first | refine uC ?_ _ | refine uE ?_ | refine uD ?_ _)); exact BK183.out) hb); have n3_ := Aside0.mk (uS (by repeat (first | (with_reducible first | exact HB.out | apply uG | apply uA | apply uF | refine uB ?_ GE181.out | refine uB ?_ GE182.out | refine uB ?_ GE183.out) | exact HB.out)) hb); clear BK181; clear BK182; clear BK183; clear HB; have BK181 := n0_; have BK182 := n1_; have BK183 := n2_; have HB := n3_; clear n0_ n1_ n2_ n3_; (try clear hb); (try clear hb2); (try clear hk); (try clear hi); have hcz12_0 : w11.cell? ⟨gb183, 0, none⟩ = some (.int .i64 a0_0) := (uI BK183.out 0).trans rfl; have hcz12_1 : w11.cell? ⟨gb183, 1, none⟩ = some (.int .i64 0) := (uI BK183.out 1).trans rfl; have hcz12_2 : w11.cell? ⟨gb183, 2, none⟩ = some (.int .i64 0) := (uI BK183.out 2).trans rfl; have hcz12_3 : w11.cell? ⟨gb183, 3, none⟩ = some (.int .i64 0) := (uI BK183.out 3).trans rfl; have hcz12_4 : w11.cell? ⟨gb183, 4, none⟩ = some (.int .i64 0) := (uI BK183.out 4).trans rfl; have hcz12_5 : w11.cell? ⟨gb183, 5, none⟩ = some (.int .i64 0) := (uI BK183.out 5).trans rfl; have hcz12_6 : w11.cell? ⟨gb183, 6, none⟩ = some (.int .i64 0) := (uI BK183.out 6).trans rfl; have hfz12_0 := uK BK183.out 0; have hfz12_1 := uK BK183.out 1; have hfz12_2 := uK BK183.out 2; have hfz12_3 := uK BK183.out 3; have hfz12_4 := uK BK183.out 4; have hfz12_5 := uK BK183.out 5; have hfz12_6 := uK BK183.out 6; have hcz13_0 : w11.cell? ⟨gb182, 0, none⟩ = some (.int .i64 0) := (uI BK182.out 0).trans rfl; have hcz13_1 : w11.cell? ⟨gb182, 1, none⟩ = some (.int .i64 0) := (uI BK182.out 1).trans rfl; have hcz13_2 : w11.cell? ⟨gb182, 2, none⟩ = some (.int .i64 0) := (uI BK182.out 2).trans rfl; have hcz13_3 : w11.cell? ⟨gb182, 3, none⟩ = some (.int .i64 0) := (uI BK182.out 3).trans rfl; have hcz13_4 : w11.cell? ⟨gb182, 4, none⟩ = some (.int .i64 0) := (uI BK182.out 4).trans rfl; have hcz13_5 : w11.cell? ⟨gb182, 5, none⟩ = some (.int .i64 0) := (uI BK182.out 5).trans rfl; have hcz13_6 : w11.cell? ⟨gb182, 6, none⟩ = some (.int .i64 0) := (uI BK182.out 6).trans rfl; have hfz13_0 := uK BK182.out 0; have hfz13_1 := uK BK182.out 1; have hfz13_2 := uK BK182.out 2; have hfz13_3 := uK BK182.out 3; have hfz13_4 := uK BK182.out 4; have hfz13_5 := uK BK182.out 5; have hfz13_6 := uK BK182.out 6))
  refine bodyPost_ret (results_cell_row rfl _ _ gb182 72 #[.int .i64 a0_0, .int .i64 t184, .int .i64 t185, .int .i64 t186, .int .i64 t187, .int .i64 t188, .int .i64 t189] (0, 0) _ rfl (by (with_reducible repeat (first | refine uC ?_ _ | refine uE ?_ | refine uD ?_ _)); refine uW (cs := #[.int .i64 a0_0, .int .i64 t184, .int .i64 t185, .int .i64 t186, .int .i64 t187, .int .i64 t188, .int .i64 0]) ?_ 6 _ rfl; (with_reducible repeat (first | refine uC ?_ _ | refine uE ?_ | refine uD ?_ _)); refine uW (cs := #[.int .i64 a0_0, .int .i64 t184, .int .i64 t185, .int .i64 t186, .int .i64 t187, .int .i64 0, .int .i64 0]) ?_ 5 _ rfl; (with_reducible repeat (first | refine uC ?_ _ | refine uE ?_ | refine uD ?_ _)); refine uW (cs := #[.int .i64 a0_0, .int .i64 t184, .int .i64 t185, .int .i64 t186, .int .i64 0, .int .i64 0, .int .i64 0]) ?_ 4 _ rfl; (with_reducible repeat (first | refine uC ?_ _ | refine uE ?_ | refine uD ?_ _)); refine uW (cs := #[.int .i64 a0_0, .int .i64 t184, .int .i64 t185, .int .i64 0, .int .i64 0, .int .i64 0, .int .i64 0]) ?_ 3 _ rfl; (with_reducible repeat (first | refine uC ?_ _ | refine uE ?_ | refine uD ?_ _)); refine uW (cs := #[.int .i64 a0_0, .int .i64 t184, .int .i64 0, .int .i64 0, .int .i64 0, .int .i64 0, .int .i64 0]) ?_ 2 _ rfl; (with_reducible repeat (first | refine uC ?_ _ | refine uE ?_ | refine uD ?_ _)); refine uW (cs := #[.int .i64 a0_0, .int .i64 0, .int .i64 0, .int .i64 0, .int .i64 0, .int .i64 0, .int .i64 0]) ?_ 1 _ rfl; (with_reducible repeat (first | refine uC ?_ _ | refine uE ?_ | refine uD ?_ _)); refine uW (cs := #[.int .i64 0, .int .i64 0, .int .i64 0, .int .i64 0, .int .i64 0, .int .i64 0, .int .i64 0]) ?_ 0 _ rfl; (with_reducible repeat (first | refine uC ?_ _ | refine uE ?_ | refine uD ?_ _)); refine vF ?_ NB182_183.out _; (with_reducible repeat (first | refine uC ?_ _ | refine uE ?_ | refine uD ?_ _)); refine vF ?_ NB182_183.out _; (with_reducible repeat (first | refine uC ?_ _ | refine uE ?_ | refine uD ?_ _)); refine vF ?_ NB182_183.out _; (with_reducible repeat (first | refine uC ?_ _ | refine uE ?_ | refine uD ?_ _)); refine vF ?_ NB182_183.out _; (with_reducible repeat (first | refine uC ?_ _ | refine uE ?_ | refine uD ?_ _)); refine vF ?_ NB182_183.out _; (with_reducible repeat (first | refine uC ?_ _ | refine uE ?_ | refine uD ?_ _)); refine vF ?_ NB182_183.out _; (with_reducible repeat (first | refine uC ?_ _ | refine uE ?_ | refine uD ?_ _)); exact BK182.out) Try.underlying72 rfl (by kernel_rfl)) rfl ?_
  exact ⟨by first | rfl | (simp [errW_none, errW_some] <;> rfl) | (simp [*, errW_none, errW_some] <;> rfl), by repeat (first | (with_reducible first | exact HB.out | apply uG | apply uA | apply uF | refine uB ?_ GE181.out | refine uB ?_ GE182.out | refine uB ?_ GE183.out) | exact HB.out)⟩

/-! ### laws_toEntryS: function 27 -/
def laws_toEntryS.l0 : Nat → List (S97) → List (S72) → Int → Option ((List (S72)))
  | 0, _, _, _ => none
  | k + 1, x0, x3, x4 => if x4 < (x0.length : Int) then (if 0 ≤ x4 then ((laws_toEntry.f ((rd_T97 x0 x4).f0) ((rd_T97 x0 x4).f1.f0) ((rd_T97 x0 x4).f1.f1) ((rd_T97 x0 x4).f1.f2) ((rd_T97 x0 x4).f1.f3) ((rd_T97 x0 x4).f1.f4) ((rd_T97 x0 x4).f1.f5)).bind fun bt194 => (if x4 < (x3.length : Int) then (laws_toEntryS.l0 k x0 (x3.set (x4 : Int).toNat (⟨bt194.1, (⟨bt194.2.1, bt194.2.2.1, bt194.2.2.2.1, bt194.2.2.2.2.1, bt194.2.2.2.2.2.1, bt194.2.2.2.2.2.2⟩ : S37)⟩ : S72)) (wrap64 (x4 + 1))) else (none))) else (none)) else (some x3)
def laws_toEntryS.f (k : Nat) (l0 : List (S97)) : Option ((List (S72))) := if 0 ≤ (l0.length : Int) then (if ((l0.length : Int) : Int).toNat ≤ 5026338869833 then (laws_toEntryS.l0 k l0 (List.replicate ((l0.length : Int) : Int).toNat z72) 0) else (none)) else (none)
theorem laws_toEntryS.mono_l : ∀ k, (∀ y0 y1 y2, vB (laws_toEntryS.l0 k y0 y1 y2) (laws_toEntryS.l0 (k + 1) y0 y1 y2))
  | 0 => fun _ _ _ r h => by simp [laws_toEntryS.l0] at h
  | k + 1 => by
    have ih0 := laws_toEntryS.mono_l k
    intro y0 y1 y2
    unfold laws_toEntryS.l0
    repeat' first
    | (with_reducible exact ih0 _ _ _)
    | (with_reducible exact vB.refl _)
    | (with_reducible exact vB.none _)
    | (with_reducible refine vB.ite ?_ ?_)
    | (with_reducible refine vB.bind ?_ (fun _ => ?_))
    | exact ih0 _ _ _
    | exact vB.none _
    | refine vB.ite ?_ ?_
    | refine vB.bind ?_ (fun _ => ?_)
theorem laws_toEntryS.mono : ∀ a0 k, vB (laws_toEntryS.f k a0) (laws_toEntryS.f (k + 1) a0) := by
  intro a0 k
  have ih0 := laws_toEntryS.mono_l k
  unfold laws_toEntryS.f
  repeat' first
      | (with_reducible exact ih0 _ _ _)
      | (with_reducible exact vB.refl _)
      | (with_reducible exact vB.none _)
      | (with_reducible refine vB.ite ?_ ?_)
      | (with_reducible refine vB.bind ?_ (fun _ => ?_))
      | exact ih0 _ _ _
      | exact vB.none _
      | refine vB.ite ?_ ?_
      | refine vB.bind ?_ (fun _ => ?_)
set_option maxHeartbeats 8000000 in
set_option maxRecDepth 100000 in
theorem laws_toEntryS.calls (k : Nat) (A0 : Option Addr) (c0 : Nat) (l0 : List (S97)) (r : List (S72)) (w : World) (hr0 : Kd.C k97 w A0 l0.length l0) (hc0 : l0.length ≤ c0) (h : laws_toEntryS.f k l0 = some r) :
    Calls Try.prog 27 #[.slice A0 l0.length c0] w fun e w' => ∃ v0_ : Value, e = .returned (v0_) ∧ Kd.R k72 72 w' w.heap.size (fun _ => True) v0_ r ∧ Below w.heap.size w w' := by
  have hu97 := Try.underlying97
  have hu72 := Try.underlying72
  have HR0 := Aside0.mk hr0
  have HC0 := Aside0.mk hc0
  clear hr0 hc0
  have HB := Aside0.mk (Below.refl w.heap.size w)
  have H : (if 0 ≤ (l0.length : Int) then (if ((l0.length : Int) : Int).toNat ≤ 5026338869833 then (laws_toEntryS.l0 k l0 (List.replicate ((l0.length : Int) : Int).toNat z72) 0) else (none)) else (none)) = some r := h
  clear h
  by_cases c2 : 0 ≤ (l0.length : Int)
  rotate_left
  · rw [if_neg c2] at H
    exact absurd H (by simp)
  rw [if_pos c2] at H
  have c2b0 := eq_true c2
  have c2b1 : decide (0 ≤ (l0.length : Int)) = true := decide_eq_true c2
  clear c2
  by_cases c3 : ((l0.length : Int) : Int).toNat ≤ 5026338869833
  rotate_left
  · rw [if_neg c3] at H
    exact absurd H (by simp)
  rw [if_pos c3] at H
  have c3b0 := eq_true c3
  have c3b1 : decide (((l0.length : Int) : Int).toNat ≤ 5026338869833) = true := decide_eq_true c3
  clear c3
  obtain ⟨y190, hy190⟩ : ∃ y_ : List (S72), y_ = (List.replicate ((l0.length : Int) : Int).toNat z72) := ⟨_, rfl⟩
  replace H : (laws_toEntryS.l0 k l0 y190 0) = some r := by first | (rw [hy190]; with_reducible exact H) | (have H2_ := (Option.bind_some _ _).symm.trans H; rw [hy190]; with_reducible exact H2_) | (have H2_ := (Option.bind_some _ _).symm.trans H; with_reducible exact H2_) | with_reducible exact H | (rw [hy190]; exact H) | exact H | rfl
  have Ny190 := Aside0.mk hy190
  clear hy190
  have H' := Aside0.mk H
  clear H
  go_enter Try.func27, Try.ntmps27
  go_wp2_with (first | ((with_reducible refine uU (N := 7) rfl ?_); refine Kd.R_make k72 _ 72 rfl (N := 7) rfl 58 _ _ rfl (l0.length : Int) rfl rfl Try.underlying58 (.agg #[(.int .i64 0), (.int .i64 0), (.int .i64 0), (.int .i64 0), (.int .i64 0), (.int .i64 0), (.int .i64 0)]) 56 info72 rfl (by decide) (by omega) z72 (ok := fun _ => True) (okp := fun _ => True) (k72_mkM _ _ _ z72 ) (fun _ hk => hk) trivial (of_decide_eq_true (by first | (with_reducible assumption) | assumption)) (Nat.le_trans (Nat.mul_le_mul_right _ (of_decide_eq_true (by first | (with_reducible assumption) | assumption) : (l0.length : Int).toNat ≤ 5026338869833)) (by omega)) (Below.refl _ _) (Nat.le_refl _) ?_; intro v191 w4 ho5 hb hg_ hnew_; clear hg_ hnew_; (first | rw [← Ny190.out] at ho5 | (simp only [Int.reduceToNat] at ho5; rw [← Ny190.out] at ho5)); have n0_ := Aside0.mk (Kd.vO ho5 (uQ (by repeat (first | (with_reducible first | exact HB.out | apply uG | apply uA | apply uF) | exact HB.out)))); have n1_ := Aside0.mk (uS (by repeat (first | (with_reducible first | exact HB.out | apply uG | apply uA | apply uF) | exact HB.out)) hb); clear HB; have HO192 := n0_; have HB := n1_; clear n0_ n1_; clear hb ho5))
  go_loopg [4] k (fun kq v4 w' => ∃ (x3_1 : List (S72)) (x4_1 : Int), v4 = .int .i64 x4_1 ∧ Aside0 (laws_toEntryS.l0 kq l0 x3_1 x4_1 = some r) ∧ Aside0 (kq ≤ k) ∧ Aside0 (Kd.R k72 72 w' w.heap.size (fun _ => True) v191 x3_1) ∧ Aside0 (Below w.heap.size w w'))
  case atStart => exact ⟨(y190), (0), (by first | rfl | (simp; done) | (simp [*]; done)), H', ⟨Nat.le_refl _⟩, ⟨by (with_reducible repeat (first | apply Kd.uN | apply Kd.uO | apply Kd.uP)); exact HO192.out⟩, ⟨by repeat (first | (with_reducible first | exact HB.out | apply uG | apply uA | apply uF) | exact HB.out)⟩⟩
  case round =>
    clear H'
    try clear c2
    try clear c2b0
    try clear c2b1
    try clear p2
    try clear c3
    try clear c3b0
    try clear c3b1
    obtain ⟨x3_1, x4_1, rfl, HA, HK1, HO_3, HB⟩ := hrel
    cases gk with
    | zero => exact absurd HA.out (by simp [laws_toEntryS.l0])
    | succ k1 =>
      have H := HA.out
      clear HA
      simp only [laws_toEntryS.l0] at H
      by_cases c6 : x4_1 < (l0.length : Int)
      rotate_left
      · rw [if_neg c6] at H
        have c6b0 : decide (x4_1 < (l0.length : Int)) = false := decide_eq_false c6
        clear c6
        obtain rfl := Option.some.inj H
        go_wp2
        go_ret
        exact ⟨_, by first | rfl | (simp [errW_none, errW_some] <;> rfl) | (simp [*, errW_none, errW_some] <;> rfl), by (with_reducible repeat (first | apply Kd.uN | apply Kd.uO | apply Kd.uP)); exact HO_3.out, by repeat (first | (with_reducible first | exact HB.out | apply uG | apply uA | apply uF) | exact HB.out)⟩
      rw [if_pos c6] at H
      have c6b0 : decide (x4_1 < (l0.length : Int)) = true := decide_eq_true c6
      clear c6
      by_cases c7 : 0 ≤ x4_1
      rotate_left
      · rw [if_neg c7] at H
        exact absurd H (by simp)
      rw [if_pos c7] at H
      have c7b0 : decide (0 ≤ x4_1) = true := decide_eq_true c7
      clear c7
      replace H := Option.bind_eq_some_iff.mp H
      obtain ⟨⟨t194, t195, t196, t197, t198, t199, t200⟩, A80, H⟩ := H
      replace H : (if x4_1 < (x3_1.length : Int) then (laws_toEntryS.l0 k1 l0 (x3_1.set (x4_1 : Int).toNat (⟨t194, (⟨t195, t196, t197, t198, t199, t200⟩ : S37)⟩ : S72)) (wrap64 (x4_1 + 1))) else (none)) = some r := H
      have A8 := Aside0.mk A80
      clear A80
      by_cases c9 : x4_1 < (x3_1.length : Int)
      rotate_left
      · rw [if_neg c9] at H
        exact absurd H (by simp)
      rw [if_pos c9] at H
      have c9b0 : decide (x4_1 < (x3_1.length : Int)) = true := decide_eq_true c9
      clear c9
      obtain ⟨y201, hy201⟩ : ∃ y_ : List (S72), y_ = (x3_1.set (x4_1 : Int).toNat (⟨t194, (⟨t195, t196, t197, t198, t199, t200⟩ : S37)⟩ : S72)) := ⟨_, rfl⟩
      replace H : (laws_toEntryS.l0 k1 l0 y201 (wrap64 (x4_1 + 1))) = some r := by first | (rw [hy201]; with_reducible exact H) | (have H2_ := (Option.bind_some _ _).symm.trans H; rw [hy201]; with_reducible exact H2_) | (have H2_ := (Option.bind_some _ _).symm.trans H; with_reducible exact H2_) | with_reducible exact H | (rw [hy201]; exact H) | exact H | rfl
      have Ny201 := Aside0.mk hy201
      clear hy201
      have H' := Aside0.mk H
      clear H
      have p193 : 0 ≤ (x4_1 : Int) := of_decide_eq_true (by first | (with_reducible assumption) | assumption)
      have q193 : x4_1 < (l0.length : Int) := of_decide_eq_true (by first | (with_reducible assumption) | assumption)
      obtain ⟨ad193, e193, hx193_0, hx193_1, hx193_2, hx193_3, hx193_4, hx193_5, hx193_6⟩ := at_T97 HR0.out x4_1 p193 q193
      cases e193
      replace hx193_0 := (HB.out.cell (yA w _ hx193_0)).trans hx193_0
      replace hx193_1 := (HB.out.cell (yA w _ hx193_1)).trans hx193_1
      replace hx193_2 := (HB.out.cell (yA w _ hx193_2)).trans hx193_2
      replace hx193_3 := (HB.out.cell (yA w _ hx193_3)).trans hx193_3
      replace hx193_4 := (HB.out.cell (yA w _ hx193_4)).trans hx193_4
      replace hx193_5 := (HB.out.cell (yA w _ hx193_5)).trans hx193_5
      replace hx193_6 := (HB.out.cell (yA w _ hx193_6)).trans hx193_6
      replace p193 := eq_true p193
      replace q193 := eq_true q193
      go_wp2_with (first | ((with_reducible refine uX (f := 68) rfl ?_); refine vM (some 20) rfl rfl Try.func68 (by kernel_rfl) rfl #[.agg #[.int .i64 ((rd_T97 l0 x4_1).f0), .int .i64 ((rd_T97 l0 x4_1).f1.f0), .int .i64 ((rd_T97 l0 x4_1).f1.f1), .int .i64 ((rd_T97 l0 x4_1).f1.f2), .int .i64 ((rd_T97 l0 x4_1).f1.f3), .int .i64 ((rd_T97 l0 x4_1).f1.f4), .int .i64 ((rd_T97 l0 x4_1).f1.f5)]] rfl (by (try simp only [vX, List.map_cons, List.map_nil]); first | done | rfl | (simp only [vZ, vY]; rfl)) ?_; (with_reducible refine (laws_toEntry.calls ((rd_T97 l0 x4_1).f0) ((rd_T97 l0 x4_1).f1.f0) ((rd_T97 l0 x4_1).f1.f1) ((rd_T97 l0 x4_1).f1.f2) ((rd_T97 l0 x4_1).f1.f3) ((rd_T97 l0 x4_1).f1.f4) ((rd_T97 l0 x4_1).f1.f5) t194 t195 t196 t197 t198 t199 t200 _ A8.out).mono ?_); rintro e w11 ⟨rfl, hb⟩; refine ⟨_, rfl, ?_⟩; have n0_ := Aside0.mk (Kd.vD (by (with_reducible repeat (first | apply Kd.uN | apply Kd.uO | apply Kd.uP)); exact HO_3.out) hb); have n1_ := Aside0.mk (uS (by repeat (first | (with_reducible first | exact HB.out | apply uG | apply uA | apply uF) | exact HB.out)) hb); clear HO_3; clear HB; have HO_3 := n0_; have HB := n1_; clear n0_ n1_; (try clear hb); (try clear hb2); (try clear hk); (try clear hi); have p10 : 0 ≤ (x4_1 : Int) := of_decide_eq_true (by first | (with_reducible assumption) | assumption); have q10 : (x4_1 : Int) < ((x3_1.length : Int) : Int) := of_decide_eq_true (by first | (with_reducible assumption) | assumption); obtain ⟨go10, co10, eo10, gb10, gl10, cl10, HG10⟩ := Kd.R_form HO_3.out (by omega); (first | cases eo10 | (injection eo10 with ea_ en_ ec_; (first | subst ea_ | (injection ea_ with ea_; subst ea_)); subst ec_; clear en_)); have GB10 := Aside0.mk gb10; have GG10 := Aside0.mk HG10; clear gb10 gl10 HG10; obtain ⟨ce10, hcl10, hM10, hcc10, hfr10⟩ := Kd.R_elem HO_3.out z72 (x4_1 : Int) p10 q10; obtain rfl := k72_openM hM10; have hx10_0 : w11.cell? ⟨go10, (x4_1 : Int).toNat * 7, none⟩ = some (.int .i64 ((rd_T72 x3_1 x4_1).f0)) := hcc10 0 _ rfl; have hx10_1 : w11.cell? ⟨go10, (x4_1 : Int).toNat * 7 + 1, none⟩ = some (.int .i64 ((rd_T72 x3_1 x4_1).f1.f0)) := hcc10 1 _ rfl; have hx10_2 : w11.cell? ⟨go10, (x4_1 : Int).toNat * 7 + 2, none⟩ = some (.int .i64 ((rd_T72 x3_1 x4_1).f1.f1)) := hcc10 2 _ rfl; have hx10_3 : w11.cell? ⟨go10, (x4_1 : Int).toNat * 7 + 3, none⟩ = some (.int .i64 ((rd_T72 x3_1 x4_1).f1.f2)) := hcc10 3 _ rfl; have hx10_4 : w11.cell? ⟨go10, (x4_1 : Int).toNat * 7 + 4, none⟩ = some (.int .i64 ((rd_T72 x3_1 x4_1).f1.f3)) := hcc10 4 _ rfl; have hx10_5 : w11.cell? ⟨go10, (x4_1 : Int).toNat * 7 + 5, none⟩ = some (.int .i64 ((rd_T72 x3_1 x4_1).f1.f4)) := hcc10 5 _ rfl; have hx10_6 : w11.cell? ⟨go10, (x4_1 : Int).toNat * 7 + 6, none⟩ = some (.int .i64 ((rd_T72 x3_1 x4_1).f1.f5)) := hcc10 6 _ rfl; have hf10_0 : w11.frozen? ⟨go10, (x4_1 : Int).toNat * 7, none⟩ = false := hfr10 0; have hf10_1 : w11.frozen? ⟨go10, (x4_1 : Int).toNat * 7 + 1, none⟩ = false := hfr10 1; have hf10_2 : w11.frozen? ⟨go10, (x4_1 : Int).toNat * 7 + 2, none⟩ = false := hfr10 2; have hf10_3 : w11.frozen? ⟨go10, (x4_1 : Int).toNat * 7 + 3, none⟩ = false := hfr10 3; have hf10_4 : w11.frozen? ⟨go10, (x4_1 : Int).toNat * 7 + 4, none⟩ = false := hfr10 4; have hf10_5 : w11.frozen? ⟨go10, (x4_1 : Int).toNat * 7 + 5, none⟩ = false := hfr10 5; have hf10_6 : w11.frozen? ⟨go10, (x4_1 : Int).toNat * 7 + 6, none⟩ = false := hfr10 6; clear hcl10 hcc10 hfr10 hM10; replace p10 := eq_true p10; replace q10 := eq_true q10; have HX12 := Aside0.mk (show Kd.R k72 72 w11 w.heap.size (fun _ => True) (.slice (some ⟨go10, 0, none⟩) x3_1.length co10) x3_1 from (by (with_reducible repeat (first | apply Kd.uN | apply Kd.uO | apply Kd.uP)); exact HO_3.out)); obtain ⟨ce12, hcl12, hM12, hcc12, hfr12⟩ := Kd.R_elem HX12.out z72 (x4_1 : Int) (of_decide_eq_true (by first | (with_reducible assumption) | assumption)) (by have h_ : (x4_1 : Int) < ((x3_1.length : Int) : Int) := of_decide_eq_true (by first | (with_reducible assumption) | assumption); first | exact h_ | (have e_ := (Kd.vH HO_3.out).1; omega) | simpa using h_); obtain rfl := k72_openM hM12; have HP12 := Kd.R_seg HX12.out (x4_1 : Int) (of_decide_eq_true (by first | (with_reducible assumption) | assumption)) (by have h_ : (x4_1 : Int) < ((x3_1.length : Int) : Int) := of_decide_eq_true (by first | (with_reducible assumption) | assumption); first | exact h_ | (have e_ := (Kd.vH HO_3.out).1; omega) | simpa using h_) (seg := [.int .i64 t194, .int .i64 t195, .int .i64 t196, .int .i64 t197, .int .i64 t198, .int .i64 t199, .int .i64 t200]) (j := 0) hcl12 hcc12 (show 7 ≤ 7 from by decide) (x' := (⟨t194, (⟨t195, t196, t197, t198, t199, t200⟩ : S37)⟩ : S72)) (k72_mkM _ _ _ (⟨t194, (⟨t195, t196, t197, t198, t199, t200⟩ : S37)⟩ : S72) ) (fun _ hk => hk); have hx12_0 := hcc12 0 _ rfl; (try simp only [show (k72).sz = 7 from rfl, Nat.mul_one, Nat.add_zero] at hx12_0); have hf12_0 := hfr12 0; (try simp only [show (k72).sz = 7 from rfl, Nat.mul_one, Nat.add_zero] at hf12_0); have hx12_1 := hcc12 1 _ rfl; (try simp only [show (k72).sz = 7 from rfl, Nat.mul_one, Nat.add_zero] at hx12_1); have hf12_1 := hfr12 1; (try simp only [show (k72).sz = 7 from rfl, Nat.mul_one, Nat.add_zero] at hf12_1); have hx12_2 := hcc12 2 _ rfl; (try simp only [show (k72).sz = 7 from rfl, Nat.mul_one, Nat.add_zero] at hx12_2); have hf12_2 := hfr12 2; (try simp only [show (k72).sz = 7 from rfl, Nat.mul_one, Nat.add_zero] at hf12_2); have hx12_3 := hcc12 3 _ rfl; (try simp only [show (k72).sz = 7 from rfl, Nat.mul_one, Nat.add_zero] at hx12_3); have hf12_3 := hfr12 3; (try simp only [show (k72).sz = 7 from rfl, Nat.mul_one, Nat.add_zero] at hf12_3); have hx12_4 := hcc12 4 _ rfl; (try simp only [show (k72).sz = 7 from rfl, Nat.mul_one, Nat.add_zero] at hx12_4); have hf12_4 := hfr12 4; (try simp only [show (k72).sz = 7 from rfl, Nat.mul_one, Nat.add_zero] at hf12_4); have hx12_5 := hcc12 5 _ rfl; (try simp only [show (k72).sz = 7 from rfl, Nat.mul_one, Nat.add_zero] at hx12_5); have hf12_5 := hfr12 5; (try simp only [show (k72).sz = 7 from rfl, Nat.mul_one, Nat.add_zero] at hf12_5); have hx12_6 := hcc12 6 _ rfl; (try simp only [show (k72).sz = 7 from rfl, Nat.mul_one, Nat.add_zero] at hx12_6); have hf12_6 := hfr12 6; (try simp only [show (k72).sz = 7 from rfl, Nat.mul_one, Nat.add_zero] at hf12_6); clear hcl12 hcc12 hfr12 hM12) | ((with_reducible refine vJ (t := 72) (p := 21) rfl ?_); refine vI (t := 72) (p := 21) (v := ?vo_w13) (w1 := (((((((w11.setCell ⟨go10, (x4_1 : Int).toNat * 7, none⟩ (.int .i64 t194)).setCell ⟨go10, (x4_1 : Int).toNat * 7 + 1, none⟩ (.int .i64 t195)).setCell ⟨go10, (x4_1 : Int).toNat * 7 + 2, none⟩ (.int .i64 t196)).setCell ⟨go10, (x4_1 : Int).toNat * 7 + 3, none⟩ (.int .i64 t197)).setCell ⟨go10, (x4_1 : Int).toNat * 7 + 4, none⟩ (.int .i64 t198)).setCell ⟨go10, (x4_1 : Int).toNat * 7 + 5, none⟩ (.int .i64 t199)).setCell ⟨go10, (x4_1 : Int).toNat * 7 + 6, none⟩ (.int .i64 t200))) ?hg ?ho ?hn ?hr ?_; (case ho => rfl); (case hg => rfl); (case hn => rfl); (case hr => first | (go_simp; done) | (go_simp; rfl)); intro w13 hw; have hg : w11.grownBy w13 (some go10) := (by rw [hw]; exact HP12.2); have hp_ : Kd.R k72 72 w13 w.heap.size (fun _ => True) (.slice (some ⟨go10, 0, none⟩) x3_1.length co10) y201 := (by rw [hw, Ny201.out]; exact HP12.1); clear HP12; have n0_ := Aside0.mk (hp_); have n1_ := Aside0.mk ((by rw [hw]; exact uB (uB (uB (uB (uB (uB (uB (HB.out) GB10.out) GB10.out) GB10.out) GB10.out) GB10.out) GB10.out) GB10.out : Below w.heap.size w w13)); clear HO_3; clear HB; have HO_3 := n0_; have HB := n1_; clear n0_ n1_; clear hg hw hp_))
      go_roundg k1
      case measure => have := HK1.out; omega
      case rel => exact ⟨(y201), (wrap64 (x4_1 + 1)), (by first | rfl | (simp; done) | (simp [*]; done)), H', ⟨by have := HK1.out; omega⟩, ⟨by (with_reducible repeat (first | apply Kd.uN | apply Kd.uO | apply Kd.uP)); exact HO_3.out⟩, ⟨by repeat (first | (with_reducible first | exact HB.out | apply uG | apply uA | apply uF) | exact HB.out)⟩⟩

/-! ### slices_Clone_int_int: function 79 -/
def slices_Clone_int_int.f (l0 : List Int) : Option (List Int) := if l0.length < 17592186044416 then some l0 else none
set_option maxHeartbeats 8000000 in
set_option maxRecDepth 100000 in
theorem slices_Clone_int_int.calls (A0 : Option Addr) (c0 : Nat) (l0 : List Int) (r : List Int) (w : World) (hr0 : Kd.C (Kd.int .i64) w A0 l0.length l0) (hc0 : l0.length ≤ c0) (h : slices_Clone_int_int.f l0 = some r) :
    Calls Try.prog 79 #[.slice A0 l0.length c0] w fun e w' => ∃ v0_ : Value, e = .returned (v0_) ∧ Kd.R (Kd.int .i64) 3 w' w.heap.size (fun _ => True) v0_ r ∧ Below w.heap.size w w' := by
  have HR0 := Aside0.mk hr0
  have HC0 := Aside0.mk hc0
  have HB := Aside0.mk (Below.refl w.heap.size w)
  unfold slices_Clone_int_int.f at h
  by_cases c2 : l0.length < 17592186044416
  rotate_left
  · rw [if_neg c2] at h
    exact absurd h (by simp)
  rw [if_pos c2] at h
  obtain rfl := Option.some.inj h
  clear h
  have LMc2 := Aside0.mk c2
  have q_ : ∀ (w : World) (a : Option Addr) (n c n' c' : Nat), (binOp .eql 22 (.slice a n c) (.slice none n' c')).run Try.prog w = .ok (.bool a.isNone) w := fun w a n c n' c' => Lib.run_eql_slice_nil w _ _ a n c n' c' Try.underlying22
  cases A0 with
  | none =>
    have hl : l0 = [] := by
      rcases Nat.eq_zero_or_pos l0.length with h | h
      · exact List.length_eq_zero_iff.1 h
      obtain ⟨ad, e, _⟩ := hr0.2.2 h
      cases e
    subst hl
    clear hr0 hc0 c2 HR0 HC0 LMc2
    go_enter Try.func79, Try.ntmps79
    go_wp2
    go_ret
    exact ⟨_, rfl, Kd.R_nil _ _ _ _ _, HB.out⟩
  | some ad =>
    clear hr0 hc0 c2
    go_enter Try.func79, Try.ntmps79
    go_wp2_with (first | ((with_reducible refine uU (N := 5) rfl ?_); refine Kd.R_lit (Kd.int .i64) _ 3 ?hg (N := 5) ?hd (xs := ([] : List Int)) (inner := []) (ok := fun _ => True) (okp := fun _ => True) ?hr ?hp (fun _ hk => hk) trivial (Below.refl _ _) (Nat.le_refl _) (by simp) ?_; (case hd => rfl); (case hg => rfl); (case hr => first | (go_simp; done) | (go_simp; rfl)); (case hp => exact (Reps.none _ _)); intro v134 w3 ho4 hb hg_ hnew_; clear hg_ hnew_; have n0_ := Aside0.mk (Kd.vO ho4 (uQ (by repeat (first | (with_reducible first | exact HB.out | apply uG | apply uA | apply uF) | exact HB.out)))); have n1_ := Aside0.mk (uS (by repeat (first | (with_reducible first | exact HB.out | apply uG | apply uA | apply uF) | exact HB.out)) hb); clear HB; have HO135 := n0_; have HB := n1_; clear n0_ n1_; clear hb ho4) | ((with_reducible refine gate_builtin (b := .append) (xs := #[.tmp 5, .tmp 6]) rfl ?_); at_builtin; refine Kd.R_append_rows (Kd.int .i64) (w0 := w) w.heap.size rfl (.tmp 5) (.tmp 6) 22 3 ((.int .i64 0)) 8 rfl Try.underlying22 info3 rfl (by decide) (by omega) v134 ([] : List Int) l0 _ _ _ (fun _ => True) (fun _ => False) rfl rfl ?aO ?aR (fun _ _ h => h) (fun _ h => h.elim) ?aF ?aB ?aS ?aL ?_; (case aR => repeat (first | exact (Kd.vE HR0.out HB.out) | (with_reducible refine Kd.vQ ?_ _) | (with_reducible refine Kd.vP ?_ _) | (with_reducible refine Kd.vS ?_))); (case aB => exact (by repeat (first | (with_reducible first | exact HB.out | apply uG | apply uA | apply uF) | exact HB.out))); (case aF => exact (fun _ _ => trivial)); (case aO => exact (by (with_reducible repeat (first | apply Kd.uN | apply Kd.uO | apply Kd.uP)); exact HO135.out)); (case aS => exact (uQ (by repeat (first | (with_reducible first | exact HB.out | apply uG | apply uA | apply uF) | exact HB.out)))); (case aL => have := LMc2.out; simp only [List.length_nil]; omega); intro v137 w5 ho hb hg hat; rw [List.nil_append] at ho; have n0_ := Aside0.mk (hb); have n1_ := Aside0.mk (ho); clear HB; clear HO135; have HB := n0_; have HO138 := n1_; clear n0_ n1_; clear ho hb hg hat))
    go_ret
    exact ⟨_, rfl, by (with_reducible repeat (first | apply Kd.uN | apply Kd.uO | apply Kd.uP)); exact HO138.out, by repeat (first | (with_reducible first | exact HB.out | apply uG | apply uA | apply uF) | exact HB.out)⟩

/-! ### slices_Clone_impl_Session_impl_Session: function 80 -/
def slices_Clone_impl_Session_impl_Session.f (l0 : List (S49)) : Option (List (S49)) := if l0.length < 4398046511104 then some l0 else none
set_option maxHeartbeats 8000000 in
set_option maxRecDepth 100000 in
theorem slices_Clone_impl_Session_impl_Session.calls (A0 : Option Addr) (c0 : Nat) (l0 : List (S49)) (r : List (S49)) (w : World) (hr0 : Kd.C k49 w A0 l0.length l0) (hc0 : l0.length ≤ c0) (h : slices_Clone_impl_Session_impl_Session.f l0 = some r) :
    Calls Try.prog 80 #[.slice A0 l0.length c0] w fun e w' => ∃ v0_ : Value, e = .returned (v0_) ∧ Kd.R k49 49 w' w.heap.size (fun _ => True) v0_ r ∧ Below w.heap.size w w' := by
  have HR0 := Aside0.mk hr0
  have HC0 := Aside0.mk hc0
  have HB := Aside0.mk (Below.refl w.heap.size w)
  unfold slices_Clone_impl_Session_impl_Session.f at h
  by_cases c2 : l0.length < 4398046511104
  rotate_left
  · rw [if_neg c2] at h
    exact absurd h (by simp)
  rw [if_pos c2] at h
  obtain rfl := Option.some.inj h
  clear h
  have LMc2 := Aside0.mk c2
  have q_ : ∀ (w : World) (a : Option Addr) (n c n' c' : Nat), (binOp .eql 29 (.slice a n c) (.slice none n' c')).run Try.prog w = .ok (.bool a.isNone) w := fun w a n c n' c' => Lib.run_eql_slice_nil w _ _ a n c n' c' Try.underlying29
  cases A0 with
  | none =>
    have hl : l0 = [] := by
      rcases Nat.eq_zero_or_pos l0.length with h | h
      · exact List.length_eq_zero_iff.1 h
      obtain ⟨ad, e, _⟩ := hr0.2.2 h
      cases e
    subst hl
    clear hr0 hc0 c2 HR0 HC0 LMc2
    go_enter Try.func80, Try.ntmps80
    go_wp2
    go_ret
    exact ⟨_, rfl, Kd.R_nil _ _ _ _ _, HB.out⟩
  | some ad =>
    clear hr0 hc0 c2
    go_enter Try.func80, Try.ntmps80
    go_wp2_with (first | ((with_reducible refine uU (N := 5) rfl ?_); refine Kd.R_lit k49 _ 49 ?hg (N := 5) ?hd (xs := ([] : List (S49))) (inner := []) (ok := fun _ => True) (okp := fun _ => True) ?hr ?hp (fun _ hk => hk) trivial (Below.refl _ _) (Nat.le_refl _) (by simp) ?_; (case hd => rfl); (case hg => rfl); (case hr => first | (go_simp; done) | (go_simp; rfl)); (case hp => exact (Reps.none _ _)); intro v134 w3 ho4 hb hg_ hnew_; clear hg_ hnew_; have n0_ := Aside0.mk (Kd.vO ho4 (uQ (by repeat (first | (with_reducible first | exact HB.out | apply uG | apply uA | apply uF) | exact HB.out)))); have n1_ := Aside0.mk (uS (by repeat (first | (with_reducible first | exact HB.out | apply uG | apply uA | apply uF) | exact HB.out)) hb); clear HB; have HO135 := n0_; have HB := n1_; clear n0_ n1_; clear hb ho4) | ((with_reducible refine gate_builtin (b := .append) (xs := #[.tmp 5, .tmp 6]) rfl ?_); at_builtin; refine Kd.R_append_rows k49 (w0 := w) w.heap.size rfl (.tmp 5) (.tmp 6) 29 49 ((.agg #[(.int .i64 0), (.int .i64 0), (.bool false), (.int .i64 0)])) 32 rfl Try.underlying29 info49 rfl (by decide) (by omega) v134 ([] : List (S49)) l0 _ _ _ (fun _ => True) (fun _ => False) rfl rfl ?aO ?aR (fun _ _ h => h) (fun _ h => h.elim) ?aF ?aB ?aS ?aL ?_; (case aR => repeat (first | exact (Kd.vE HR0.out HB.out) | (with_reducible refine Kd.vQ ?_ _) | (with_reducible refine Kd.vP ?_ _) | (with_reducible refine Kd.vS ?_))); (case aB => exact (by repeat (first | (with_reducible first | exact HB.out | apply uG | apply uA | apply uF) | exact HB.out))); (case aF => exact (fun _ _ => trivial)); (case aO => exact (by (with_reducible repeat (first | apply Kd.uN | apply Kd.uO | apply Kd.uP)); exact HO135.out)); (case aS => exact (uQ (by repeat (first | (with_reducible first | exact HB.out | apply uG | apply uA | apply uF) | exact HB.out)))); (case aL => have := LMc2.out; simp only [List.length_nil]; omega); intro v137 w5 ho hb hg hat; rw [List.nil_append] at ho; have n0_ := Aside0.mk (hb); have n1_ := Aside0.mk (ho); clear HB; clear HO135; have HB := n0_; have HO138 := n1_; clear n0_ n1_; clear ho hb hg hat))
    go_ret
    exact ⟨_, rfl, by (with_reducible repeat (first | apply Kd.uN | apply Kd.uO | apply Kd.uP)); exact HO138.out, by repeat (first | (with_reducible first | exact HB.out | apply uG | apply uA | apply uF) | exact HB.out)⟩

/-! ### impl_machineCopy: function 49 -/
def impl_machineCopy.f (l0_0 : List Int) (l0_1 : List (S49)) : Option (List Int × (List (S49))) := (slices_Clone_int_int.f l0_0).bind fun t204 => ((slices_Clone_impl_Session_impl_Session.f l0_1).bind fun t207 => (some (t204, t207)))
def impl_machineCopy.T1 : Bool × List (List Nat × List Nat) := (true, [([], []), ([0], [0]), ([1], [1]), ([], []), ([3], [3]), ([4, 2], [4]), ([2, 5], [2, 5]), ([6, 5, 0, 1, 2, 3, 4, 5, 6], [6])])
def impl_machineCopy.B1 : List Nat := [0, 1, 3, 0, 8, 31, 63, 127]
theorem impl_machineCopy.tab1 : rtab .any (opsOf Try.f49 1) = impl_machineCopy.T1 := by kernel_rfl
theorem impl_machineCopy.bits1 : waitsOk impl_machineCopy.T1.2 impl_machineCopy.B1 = true := by kernel_rfl
set_option maxHeartbeats 8000000 in
set_option maxRecDepth 100000 in
theorem impl_machineCopy.calls (A0_0 : Option Addr) (c0_0 : Nat) (l0_0 : List Int) (A0_1 : Option Addr) (c0_1 : Nat) (l0_1 : List (S49)) (r1 : List Int) (r2 : List (S49)) (w : World) (hr0_0 : Kd.C (Kd.int .i64) w A0_0 l0_0.length l0_0) (hc0_0 : l0_0.length ≤ c0_0) (hr0_1 : Kd.C k49 w A0_1 l0_1.length l0_1) (hc0_1 : l0_1.length ≤ c0_1) (h : impl_machineCopy.f l0_0 l0_1 = some (r1, r2)) :
    Calls Try.prog 49 #[.agg #[.slice A0_0 l0_0.length c0_0, .slice A0_1 l0_1.length c0_1]] w fun e w' => ∃ v0_ v1_ : Value, e = .returned (.agg #[v0_, v1_]) ∧ Kd.R (Kd.int .i64) 3 w' w.heap.size (fun _ => True) v0_ r1 ∧ Kd.R k49 49 w' w.heap.size (fun _ => True) v1_ r2 ∧ Below w.heap.size w w' := by
  have hu31 := Try.underlying31
  have HR0_0 := Aside0.mk hr0_0
  have HC0_0 := Aside0.mk hc0_0
  clear hr0_0 hc0_0
  have HR0_1 := Aside0.mk hr0_1
  have HC0_1 := Aside0.mk hc0_1
  clear hr0_1 hc0_1
  have HB := Aside0.mk (Below.refl w.heap.size w)
  have H : ((slices_Clone_int_int.f l0_0).bind fun t204 => ((slices_Clone_impl_Session_impl_Session.f l0_1).bind fun t207 => (some (t204, t207)))) = some (r1, r2) := h
  clear h
  replace H := Option.bind_eq_some_iff.mp H
  obtain ⟨t204, A20, H⟩ := H
  replace H : ((slices_Clone_impl_Session_impl_Session.f l0_1).bind fun t207 => (some (t204, t207))) = some (r1, r2) := H
  have A2 := Aside0.mk A20
  clear A20
  replace H := Option.bind_eq_some_iff.mp H
  obtain ⟨t207, A30, H⟩ := H
  replace H : (some (t204, t207)) = some (r1, r2) := H
  have A3 := Aside0.mk A30
  clear A30
  simp only [Option.some.injEq, Prod.mk.injEq] at H
  obtain ⟨rfl, rfl⟩ := H
  go_enter Try.func49, Try.ntmps49
  try go_wp2_with (first | ((with_reducible refine uU (N := 1) rfl ?_); refine uT ?hg (N := 1) ?hd (cs := #[.slice A0_0 l0_0.length c0_0, .slice A0_1 l0_1.length c0_1]) (t := 31) ?hr ?_; (case hd => rfl); (case hg => rfl); (case hr => first | (go_simp; done) | (go_simp; rfl)); intro gb202 hg w4 hbox hb; have n0_ := Aside0.mk (uS (by repeat (first | (with_reducible first | exact HB.out | apply uG | apply uA | apply uF) | exact HB.out)) hb); have n1_ := Aside0.mk (hbox); have n2_ := Aside0.mk ((by rw [hg]; exact (uQ (by repeat (first | (with_reducible first | exact HB.out | apply uG | apply uA | apply uF) | exact HB.out))) : w.heap.size ≤ gb202)); have n3_ := Aside0.mk ((by rw [hg]; exact (uQ (by repeat (first | (with_reducible first | exact HB.out | apply uG | apply uA | apply uF) | exact HB.out))) : w.heap.size ≤ gb202)); clear HB; have HB := n0_; have BK202 := n1_; have GW202 := n2_; have GE202 := n3_; clear n0_ n1_ n2_ n3_; clear hb hbox hg) | ((with_reducible refine uU (N := 2) rfl ?_); refine uT ?hg (N := 2) ?hd (cs := #[.slice none 0 0, .slice none 0 0]) (t := 31) ?hr ?_; (case hd => rfl); (case hg => rfl); (case hr => first | (go_simp; done) | (go_simp; rfl)); intro gb203 hg w5 hbox hb; have n0_ := Aside0.mk (uR (g := gb202) (o := .cells #[.slice A0_0 l0_0.length c0_0, .slice A0_1 l0_1.length c0_1] 31 (0, 0)) (by (with_reducible repeat (first | refine uC ?_ _ | refine uE ?_ | refine uD ?_ _)); exact BK202.out) hb); have n1_ := Aside0.mk (uS (by repeat (first | (with_reducible first | exact HB.out | apply uG | apply uA | apply uF | refine uB ?_ GE202.out) | exact HB.out)) hb); have n2_ := Aside0.mk (hbox); have n3_ := Aside0.mk ((by rw [hg]; exact (uQ (by repeat (first | (with_reducible first | exact HB.out | apply uG | apply uA | apply uF | refine uB ?_ GE202.out) | exact HB.out))) : w.heap.size ≤ gb203)); have n4_ := Aside0.mk ((by rw [hg]; exact (uQ (by repeat (first | (with_reducible first | exact HB.out | apply uG | apply uA | apply uF | refine uB ?_ GE202.out) | exact HB.out))) : w.heap.size ≤ gb203)); have n5_ := Aside0.mk ((by rw [hg]; exact Nat.ne_of_lt (uV (g := gb202) (o := .cells #[.slice A0_0 l0_0.length c0_0, .slice A0_1 l0_1.length c0_1] 31 (0, 0)) (by (with_reducible repeat (first | refine uC ?_ _ | refine uE ?_ | refine uD ?_ _)); exact BK202.out)) : gb202 ≠ gb203)); have n6_ := Aside0.mk ((by rw [hg]; exact Nat.ne_of_gt (uV (g := gb202) (o := .cells #[.slice A0_0 l0_0.length c0_0, .slice A0_1 l0_1.length c0_1] 31 (0, 0)) (by (with_reducible repeat (first | refine uC ?_ _ | refine uE ?_ | refine uD ?_ _)); exact BK202.out)) : gb203 ≠ gb202)); clear BK202; clear HB; have BK202 := n0_; have HB := n1_; have BK203 := n2_; have GW203 := n3_; have GE203 := n4_; have NB202_203 := n5_; have NB203_202 := n6_; clear n0_ n1_ n2_ n3_ n4_ n5_ n6_; clear hb hbox hg))
  have n0_ := Aside0.mk (uE BK202.out)
  have n1_ := Aside0.mk (uE BK203.out)
  have n2_ := Aside0.mk (uF HB.out)
  clear BK202
  clear BK203
  clear HB
  have BK202 := n0_
  have BK203 := n1_
  have HB := n2_
  clear n0_ n1_ n2_
  refine start_ (n := 8) (S := fun w' => w'.cell? ⟨gb202, 0, none⟩ = some (.slice A0_0 l0_0.length c0_0) ∧ w'.cell? ⟨gb202, 1, none⟩ = some (.slice A0_1 l0_1.length c0_1)) (ds := []) #[false, false, false, false, false, false, false, false] (by kernel_rfl) rfl rfl ⟨(uI BK202.out 0).trans rfl, (uI BK202.out 1).trans rfl⟩ (fun hHeld => ?_); refine with_tabW impl_machineCopy.tab1 impl_machineCopy.bits1 (fun HT_ HW_ => ?_)
  generalize w5.drew = w6 at BK202 BK203 HB hHeld ⊢
  refine uJ (i := 0) (N := some 3) (v := ?_) (a' := ?_) #[true, false, false, false, false, false, false, false] rfl rfl (vL HT_.out (by kernel_rfl)) (fun _ _ _ h => h) (Or.inl ⟨by rfl, ?_⟩) ?_ ?_
  rotate_left
  · intro w'
    go_simp
    with_reducible rfl
  rotate_left
  · simp only [Act.put, vU, vV, vW, uL, uM]
    rfl
  refine uJ (i := 3) (N := some 6) (v := ?_) (a' := ?_) #[true, false, false, true, false, false, false, false] rfl rfl (vL HT_.out (by kernel_rfl)) (fun _ _ _ h => h) (Or.inl ⟨by rfl, ?_⟩) ?_ ?_
  rotate_left
  · intro w'
    go_simp
    with_reducible rfl
  rotate_left
  · simp only [Act.put, vU, vV, vW, uL, uM]
    rfl
  refine take_ (i := 1) (N := some 4) (v := ?_) (a' := ?_) #[true, true, false, true, false, false, false, false] rfl rfl (take_ofW HT_.out HW_.out (by kernel_rfl)) (fun _ _ _ h => h) (Or.inl ⟨by rfl, ?_⟩) hHeld ?_ ?_
  rotate_left
  · rintro w' ⟨s0, s1⟩
    go_simp
    with_reducible rfl
  rotate_left
  · simp only [Act.put, vU, vV, vW, uL, uM]
    rfl
  refine take_ (i := 4) (N := some 7) (v := ?_) (a' := ?_) #[true, true, false, true, true, false, false, false] rfl rfl (take_ofW HT_.out HW_.out (by kernel_rfl)) (fun _ _ _ h => h) (Or.inl ⟨by rfl, ?_⟩) hHeld ?_ ?_
  rotate_left
  · rintro w' ⟨s0, s1⟩
    go_simp
    with_reducible rfl
  rotate_left
  · simp only [Act.put, vU, vV, vW, uL, uM]
    rfl
  refine one_ (i := 2) (N := some 5) #[true, true, true, true, true, false, false, false] rfl rfl (one_of HT_.out (by kernel_rfl)) (by decide) (fun K hK => ?_)
  refine goes_ Try.func79 (by kernel_rfl) rfl #[.slice A0_0 l0_0.length c0_0] (by rfl) rfl rfl (by (try simp only [vX, List.map_cons, List.map_nil]); first | done | rfl | (simp only [vZ, vY]; rfl)) ?_
  with_reducible refine (slices_Clone_int_int.calls _ _ l0_0 t204 _ ?side1 ?side2 A2.out).mono ?_
  (case side1 => repeat (first | exact (Kd.vE HR0_0.out HB.out) | (with_reducible refine Kd.vQ ?_ _) | (with_reducible refine Kd.vP ?_ _) | (with_reducible refine Kd.vS ?_)))
  (case side2 => exact HC0_0.out)
  rintro e w7 ⟨v205, rfl, ho0, hb⟩
  refine ⟨_, rfl, ?_⟩
  have n0_ := Aside0.mk (Kd.vO ho0 (uQ (by repeat (first | (with_reducible first | exact HB.out | apply uG | apply uA | apply uF | refine uB ?_ GE202.out | refine uB ?_ GE203.out) | exact HB.out))))
  have n1_ := Aside0.mk (uR (g := gb202) (o := .cells #[.slice A0_0 l0_0.length c0_0, .slice A0_1 l0_1.length c0_1] 31 (0, 0)) (by (with_reducible repeat (first | refine uC ?_ _ | refine uE ?_ | refine uD ?_ _)); exact BK202.out) hb)
  have n2_ := Aside0.mk (uR (g := gb203) (o := .cells #[.slice none 0 0, .slice none 0 0] 31 (0, 0)) (by (with_reducible repeat (first | refine uC ?_ _ | refine uE ?_ | refine uD ?_ _)); exact BK203.out) hb)
  have n3_ := Aside0.mk (uS (by repeat (first | (with_reducible first | exact HB.out | apply uG | apply uA | apply uF | refine uB ?_ GE202.out | refine uB ?_ GE203.out) | exact HB.out)) hb)
  clear BK202
  clear BK203
  clear HB
  have HO206 := n0_
  have BK202 := n1_
  have BK203 := n2_
  have HB := n3_
  clear n0_ n1_ n2_ n3_
  (try clear hb)
  (try clear hb2)
  (try clear hk)
  (try clear hi)
  (try clear ho0)
  refine hK.out _ _ ⟨(uI BK202.out 0).trans rfl, (uI BK202.out 1).trans rfl⟩ (fun hHeld => ?_)
  clear hK K
  refine vC (a' := ?_) ?_ ?_
  rotate_left
  · show Act.put _ (some 5) _ = _
    simp only [Act.put, vU, vV, vW, uL, uM]
    rfl
  refine one_ (i := 5) (N := some 8) #[true, true, true, true, true, true, false, false] rfl rfl (one_of HT_.out (by kernel_rfl)) (by decide) (fun K hK => ?_)
  refine goes_ Try.func80 (by kernel_rfl) rfl #[.slice A0_1 l0_1.length c0_1] (by rfl) rfl rfl (by (try simp only [vX, List.map_cons, List.map_nil]); first | done | rfl | (simp only [vZ, vY]; rfl)) ?_
  with_reducible refine (slices_Clone_impl_Session_impl_Session.calls _ _ l0_1 t207 _ ?side1 ?side2 A3.out).mono ?_
  (case side1 => repeat (first | exact (Kd.vE HR0_1.out HB.out) | (with_reducible refine Kd.vQ ?_ _) | (with_reducible refine Kd.vP ?_ _) | (with_reducible refine Kd.vS ?_)))
  (case side2 => exact HC0_1.out)
  rintro e w8 ⟨v208, rfl, ho0, hb⟩
  refine ⟨_, rfl, ?_⟩
  have n0_ := Aside0.mk (Kd.vD (by (with_reducible repeat (first | apply Kd.uN | apply Kd.uO | apply Kd.uP)); exact HO206.out) hb)
  have n1_ := Aside0.mk (Kd.vO ho0 (uQ (by repeat (first | (with_reducible first | exact HB.out | apply uG | apply uA | apply uF | refine uB ?_ GE202.out | refine uB ?_ GE203.out) | exact HB.out))))
  have n2_ := Aside0.mk (uR (g := gb202) (o := .cells #[.slice A0_0 l0_0.length c0_0, .slice A0_1 l0_1.length c0_1] 31 (0, 0)) (by (with_reducible repeat (first | refine uC ?_ _ | refine uE ?_ | refine uD ?_ _)); exact BK202.out) hb)
  have n3_ := Aside0.mk (uR (g := gb203) (o := .cells #[.slice none 0 0, .slice none 0 0] 31 (0, 0)) (by (with_reducible repeat (first | refine uC ?_ _ | refine uE ?_ | refine uD ?_ _)); exact BK203.out) hb)
  have n4_ := Aside0.mk (uS (by repeat (first | (with_reducible first | exact HB.out | apply uG | apply uA | apply uF | refine uB ?_ GE202.out | refine uB ?_ GE203.out) | exact HB.out)) hb)
  clear HO206
  clear BK202
  clear BK203
  clear HB
  have HO206 := n0_
  have HO209 := n1_
  have BK202 := n2_
  have BK203 := n3_
  have HB := n4_
  clear n0_ n1_ n2_ n3_ n4_
  (try clear hb)
  (try clear hb2)
  (try clear hk)
  (try clear hi)
  (try clear ho0)
  obtain ⟨Ao9, co9, eo9⟩ := Kd.vN HO209.out
  (first | subst eo9 | (injection eo9 with f1_ f2_ f3_; have f4_ := f1_.symm; have f5_ := f3_.symm; clear f1_ f2_ f3_; subst f4_; subst f5_))
  obtain ⟨Ao10, co10, eo10⟩ := Kd.vN HO206.out
  (first | subst eo10 | (injection eo10 with f1_ f2_ f3_; have f4_ := f1_.symm; have f5_ := f3_.symm; clear f1_ f2_ f3_; subst f4_; subst f5_))
  refine hK.out _ _ ⟨(uI BK202.out 0).trans rfl, (uI BK202.out 1).trans rfl⟩ (fun hHeld => ?_)
  clear hK K
  refine vC (a' := ?_) ?_ ?_
  rotate_left
  · show Act.put _ (some 8) _ = _
    simp only [Act.put, vU, vV, vW, uL, uM]
    rfl
  refine uJ (i := 6) (N := some 9) (v := ?_) (a' := ?_) #[true, true, true, true, true, true, true, false] rfl rfl (vL HT_.out (by kernel_rfl)) (fun _ _ _ h => h) (Or.inl ⟨by rfl, ?_⟩) ?_ ?_
  rotate_left
  · intro w'
    go_simp
    with_reducible rfl
  rotate_left
  · simp only [Act.put, vU, vV, vW, uL, uM]
    rfl
  refine one_ (i := 7) (N := none) #[true, true, true, true, true, true, true, true] rfl rfl (one_of HT_.out (by kernel_rfl)) (by decide) (fun K hK => ?_)
  have hs11 : w8.cell? ⟨gb203, 0, none⟩ = some (.slice none 0 0) := (uI BK203.out 0).trans rfl
  have hfs11 := uK BK203.out 0
  have hns11_0 := NB202_203.out
  have hms11_0 := NB203_202.out
  have hs12 : w8.cell? ⟨gb203, 1, none⟩ = some (.slice none 0 0) := (uI BK203.out 1).trans rfl
  have hfs12 := uK BK203.out 1
  have hns12_0 := NB202_203.out
  have hms12_0 := NB203_202.out
  refine skip_ (w1 := ?_) (by rfl) rfl ?_ ?_
  rotate_left
  · go_simp
    rfl
  refine hK.out _ _ ⟨((vA (p := ⟨gb203, _, none⟩) NB202_203.out _).trans (((vA (p := ⟨gb203, _, none⟩) NB202_203.out _).trans (hHeld.1)))), ((vA (p := ⟨gb203, _, none⟩) NB202_203.out _).trans (((vA (p := ⟨gb203, _, none⟩) NB202_203.out _).trans (hHeld.2))))⟩ (fun hHeld => ?_)
  clear hK K
  refine done_ (done_of HT_.out (by kernel_rfl)) ?_
  try go_wp2
  refine bodyPost_ret (results_cell_row rfl _ _ gb203 31 #[.slice Ao10 t204.length co10, .slice Ao9 t207.length co9] (0, 0) _ rfl (by (with_reducible repeat (first | refine uC ?_ _ | refine uE ?_ | refine uD ?_ _)); refine uW (cs := #[.slice Ao10 t204.length co10, .slice none 0 0]) ?_ 1 _ rfl; (with_reducible repeat (first | refine uC ?_ _ | refine uE ?_ | refine uD ?_ _)); refine uW (cs := #[.slice none 0 0, .slice none 0 0]) ?_ 0 _ rfl; (with_reducible repeat (first | refine uC ?_ _ | refine uE ?_ | refine uD ?_ _)); exact BK203.out) Try.underlying31 rfl (by kernel_rfl)) rfl ?_
  exact ⟨_, _, by first | rfl | (simp [errW_none, errW_some] <;> rfl) | (simp [*, errW_none, errW_some] <;> rfl), by (with_reducible repeat (first | apply Kd.uN | apply Kd.uO | apply Kd.uP)); exact Kd.uZ (Kd.vG (p := ⟨gb203, 1, none⟩) (Kd.vG (p := ⟨gb203, 0, none⟩) (Kd.vR HO206.out BK203.out (by decide)) (fun _ hk => hk.2) (.slice Ao10 t204.length co10)) (fun _ hk => hk.2) (.slice Ao9 t207.length co9)) (fun _ hk => trivial), by (with_reducible repeat (first | apply Kd.uN | apply Kd.uO | apply Kd.uP)); exact Kd.uZ (Kd.vG (p := ⟨gb203, 1, none⟩) (Kd.vG (p := ⟨gb203, 0, none⟩) (Kd.vR HO209.out BK203.out (by decide)) (fun _ hk => hk.2) (.slice Ao10 t204.length co10)) (fun _ hk => hk.2) (.slice Ao9 t207.length co9)) (fun _ hk => trivial), by repeat (first | (with_reducible first | exact HB.out | apply uG | apply uA | apply uF | refine uB ?_ GE202.out | refine uB ?_ GE203.out) | exact HB.out)⟩

/-! ### impl_within: function 65 -/
def impl_within.f (a0 : Int) (a1 : Int) (a2 : Int) : Option (Bool) := if a1 ≤ a0 then (some (decide (a0 ≤ a2))) else (some false)
set_option maxHeartbeats 8000000 in
set_option maxRecDepth 100000 in
theorem impl_within.calls (a0 : Int) (a1 : Int) (a2 : Int) (r : Bool) (w : World) (h : impl_within.f a0 a1 a2 = some r) :
    Calls Try.prog 65 #[.int .i64 a0, .int .i64 a1, .int .i64 a2] w fun e w' => e = .returned (.bool r) ∧ Drawn0 w w' := by
  have H : (if a1 ≤ a0 then (some (decide (a0 ≤ a2))) else (some false)) = some r := h
  clear h
  by_cases c4 : a1 ≤ a0
  · rw [if_pos c4] at H
    have c4b0 : decide (a1 ≤ a0) = true := decide_eq_true c4
    clear c4
    obtain rfl := Option.some.inj H
    go_enter Try.func65, Try.ntmps65
    go_wp2
    go_ret
    exact ⟨by first | rfl | (simp; done) | (simp [*]; done), by repeat (first | exact Drawn0.refl _ | apply Drawn0.step)⟩
  rw [if_neg c4] at H
  have c4b0 : decide (a1 ≤ a0) = false := decide_eq_false c4
  clear c4
  obtain rfl := Option.some.inj H
  go_enter Try.func65, Try.ntmps65
  go_wp2
  go_ret
  exact ⟨by first | rfl | (simp; done) | (simp [*]; done), by repeat (first | exact Drawn0.refl _ | apply Drawn0.step)⟩

end Go.Proofs.Ytcikahnmiiichaa.T
