/- Go functions as Lean functions, and the proof that the code comes to them: written by a program of this session out of the translation. -/
import Derived.Test.YtcikahnmiiichaaT0
namespace Go.Proofs.Ytcikahnmiiichaa.T
open List renaming setIfInBounds_toArray → vU, set_cons_zero → vV, set_cons_succ → vW, map_toArray → vX, length_take → vY, length_drop → vZ
open Go.World renaming block_lt_of_cell? → yA
open Go.RowKit Go.Proofs.YtcikahnmiiichaaW.PrintWords Go.Proofs.YtcikahnmiiichaaW.PrintLast Go.Proofs.YtcikahnmiiichaaW.PrintMore
attribute [local go_sem] max2_int min2_int max_two min_two max_three min_three max_four min_four   -- for this text's walks alone
set_option linter.unusedVariables false
set_option linter.unusedSimpArgs false

/-! ### spec_SessionOf: function 46 -/
def spec_SessionOf.l0 : Nat → Int → Int → List Int → List (S49) → Option (Int × Int × Bool × Int × Bool)
  | 0, _, _, _, _ => none
  | k + 1, x1, x6, x125000, x125001 => if x6 < (x125001.length : Int) then (if 0 ≤ x6 then (if ((rd_T49 x125001 x6).f0) = x1 then (some ((rd_T49 x125001 x6).f0, (rd_T49 x125001 x6).f1, (rd_T49 x125001 x6).f2.f0, (rd_T49 x125001 x6).f2.f1, true)) else (spec_SessionOf.l0 k x1 (wrap64 (x6 + 1)) x125000 x125001)) else (none)) else (some (0, 0, false, 0, false))
def spec_SessionOf.f (k : Nat) (l0_0 : List Int) (l0_1 : List (S49)) (a1 : Int) : Option (Int × Int × Bool × Int × Bool) := spec_SessionOf.l0 k a1 0 l0_0 l0_1
theorem spec_SessionOf.mono_l : ∀ k, (∀ y0 y1 y2 y3, vB (spec_SessionOf.l0 k y0 y1 y2 y3) (spec_SessionOf.l0 (k + 1) y0 y1 y2 y3))
  | 0 => fun _ _ _ _ r h => by simp [spec_SessionOf.l0] at h
  | k + 1 => by
    have ih0 := spec_SessionOf.mono_l k
    intro y0 y1 y2 y3
    unfold spec_SessionOf.l0
    repeat' first
    | (with_reducible exact ih0 _ _ _ _)
    | (with_reducible exact vB.refl _)
    | (with_reducible exact vB.none _)
    | (with_reducible refine vB.ite ?_ ?_)
    | (with_reducible refine vB.bind ?_ (fun _ => ?_))
    | exact ih0 _ _ _ _
    | exact vB.none _
    | refine vB.ite ?_ ?_
    | refine vB.bind ?_ (fun _ => ?_)
theorem spec_SessionOf.mono : ∀ a0 a1 a2 k, vB (spec_SessionOf.f k a0 a1 a2) (spec_SessionOf.f (k + 1) a0 a1 a2) := by
  intro a0 a1 a2 k
  have ih0 := spec_SessionOf.mono_l k
  unfold spec_SessionOf.f
  repeat' first
      | (with_reducible exact ih0 _ _ _ _)
      | (with_reducible exact vB.refl _)
      | (with_reducible exact vB.none _)
      | (with_reducible refine vB.ite ?_ ?_)
      | (with_reducible refine vB.bind ?_ (fun _ => ?_))
      | exact ih0 _ _ _ _
      | exact vB.none _
      | refine vB.ite ?_ ?_
      | refine vB.bind ?_ (fun _ => ?_)
set_option maxHeartbeats 8000000 in
set_option maxRecDepth 100000 in
theorem spec_SessionOf.calls (k : Nat) (A0_0 : Option Addr) (c0_0 : Nat) (l0_0 : List Int) (A0_1 : Option Addr) (c0_1 : Nat) (l0_1 : List (S49)) (a1 : Int) (r1 : Int) (r2 : Int) (r3 : Bool) (r4 : Int) (r5 : Bool) (w : World) (hr0_0 : Kd.C (Kd.int .i64) w A0_0 l0_0.length l0_0) (hc0_0 : l0_0.length ≤ c0_0) (hr0_1 : Kd.C k49 w A0_1 l0_1.length l0_1) (hc0_1 : l0_1.length ≤ c0_1) (h : spec_SessionOf.f k l0_0 l0_1 a1 = some (r1, r2, r3, r4, r5)) :
    Calls Try.prog 46 #[.agg #[.slice A0_0 l0_0.length c0_0, .slice A0_1 l0_1.length c0_1], .int .i64 a1] w fun e w' => e = .returned (.tuple #[.agg #[.int .i64 r1, .int .i64 r2, .bool r3, .int .i64 r4], .bool r5]) ∧ Below w.heap.size w w' := by
  have hu31 := Try.underlying31
  have hu49 := Try.underlying49
  have HR0_0 := Aside0.mk hr0_0
  have HC0_0 := Aside0.mk hc0_0
  clear hr0_0 hc0_0
  have HR0_1 := Aside0.mk hr0_1
  have HC0_1 := Aside0.mk hc0_1
  clear hr0_1 hc0_1
  have HB := Aside0.mk (Below.refl w.heap.size w)
  have H : (spec_SessionOf.l0 k a1 0 l0_0 l0_1) = some (r1, r2, r3, r4, r5) := h
  clear h
  have H' := Aside0.mk H
  clear H
  go_enter Try.func46, Try.ntmps46
  go_wp2_with (first | ((with_reducible refine uU (N := 2) rfl ?_); refine uT ?hg (N := 2) ?hd (cs := #[.slice A0_0 l0_0.length c0_0, .slice A0_1 l0_1.length c0_1]) (t := 31) ?hr ?_; (case hd => rfl); (case hg => rfl); (case hr => first | (go_simp; done) | (go_simp; rfl)); intro gb124 hg w3 hbox hb; have n0_ := Aside0.mk (uS (by repeat (first | (with_reducible first | exact HB.out | apply uG | apply uA | apply uF) | exact HB.out)) hb); have n1_ := Aside0.mk (hbox); have n2_ := Aside0.mk ((by rw [hg]; exact (uQ (by repeat (first | (with_reducible first | exact HB.out | apply uG | apply uA | apply uF) | exact HB.out))) : w.heap.size ≤ gb124)); have n3_ := Aside0.mk ((by rw [hg]; exact (uQ (by repeat (first | (with_reducible first | exact HB.out | apply uG | apply uA | apply uF) | exact HB.out))) : w.heap.size ≤ gb124)); clear HB; have HB := n0_; have BK124 := n1_; have GW124 := n2_; have GE124 := n3_; clear n0_ n1_ n2_ n3_; clear hb hbox hg) | ((with_reducible refine uU (N := 4) rfl ?_); refine uT ?hg (N := 4) ?hd (cs := #[.int .i64 0, .int .i64 0, .bool false, .int .i64 0]) (t := 49) ?hr ?_; (case hd => rfl); (case hg => rfl); (case hr => first | (go_simp; done) | (go_simp; rfl)); intro gb125 hg w4 hbox hb; have n0_ := Aside0.mk (uR (g := gb124) (o := .cells #[.slice A0_0 l0_0.length c0_0, .slice A0_1 l0_1.length c0_1] 31 (0, 0)) (by (with_reducible repeat (first | refine uC ?_ _ | refine uE ?_ | refine uD ?_ _)); exact BK124.out) hb); have n1_ := Aside0.mk (uS (by repeat (first | (with_reducible first | exact HB.out | apply uG | apply uA | apply uF | refine uB ?_ GE124.out) | exact HB.out)) hb); have n2_ := Aside0.mk (hbox); have n3_ := Aside0.mk ((by rw [hg]; exact (uQ (by repeat (first | (with_reducible first | exact HB.out | apply uG | apply uA | apply uF | refine uB ?_ GE124.out) | exact HB.out))) : w.heap.size ≤ gb125)); have n4_ := Aside0.mk ((by rw [hg]; exact (uQ (by repeat (first | (with_reducible first | exact HB.out | apply uG | apply uA | apply uF | refine uB ?_ GE124.out) | exact HB.out))) : w.heap.size ≤ gb125)); have n5_ := Aside0.mk ((by rw [hg]; exact Nat.ne_of_lt (uV (g := gb124) (o := .cells #[.slice A0_0 l0_0.length c0_0, .slice A0_1 l0_1.length c0_1] 31 (0, 0)) (by (with_reducible repeat (first | refine uC ?_ _ | refine uE ?_ | refine uD ?_ _)); exact BK124.out)) : gb124 ≠ gb125)); have n6_ := Aside0.mk ((by rw [hg]; exact Nat.ne_of_gt (uV (g := gb124) (o := .cells #[.slice A0_0 l0_0.length c0_0, .slice A0_1 l0_1.length c0_1] 31 (0, 0)) (by (with_reducible repeat (first | refine uC ?_ _ | refine uE ?_ | refine uD ?_ _)); exact BK124.out)) : gb125 ≠ gb124)); clear BK124; clear HB; have BK124 := n0_; have HB := n1_; have BK125 := n2_; have GW125 := n3_; have GE125 := n4_; have NB124_125 := n5_; have NB125_124 := n6_; clear n0_ n1_ n2_ n3_ n4_ n5_ n6_; clear hb hbox hg))
  go_loopg [6] k (fun kq v6 w' => ∃ (x6_1 : Int) (x126000_1 : Int) (x126001_1 : Int) (x126002_1 : Bool) (x126003_1 : Int), v6 = .int .i64 x6_1 ∧ Aside0 (spec_SessionOf.l0 kq a1 x6_1 l0_0 l0_1 = some (r1, r2, r3, r4, r5)) ∧ Aside0 (kq ≤ k) ∧ Aside0 (w'.heap[gb124]? = some (.cells #[(.slice A0_0 l0_0.length c0_0), (.slice A0_1 l0_1.length c0_1)] 31 (0, 0))) ∧ Aside0 (w'.heap[gb125]? = some (.cells #[.int .i64 x126000_1, .int .i64 x126001_1, .bool x126002_1, .int .i64 x126003_1] 49 (0, 0))) ∧ Aside0 (Below w.heap.size w w'))
  case atStart => exact ⟨(0), (0), (0), (false), (0), (by first | rfl | (simp; done) | (simp [*]; done)), H', ⟨Nat.le_refl _⟩, ⟨by (with_reducible repeat (first | refine uC ?_ _ | refine uE ?_ | refine uD ?_ _)); exact BK124.out⟩, ⟨by (with_reducible repeat (first | refine uC ?_ _ | refine uE ?_ | refine uD ?_ _)); exact BK125.out⟩, ⟨by repeat (first | (with_reducible first | exact HB.out | apply uG | apply uA | apply uF | refine uB ?_ GE124.out | refine uB ?_ GE125.out) | exact HB.out)⟩⟩
  case round =>
    clear H'
    try clear p2
    try clear c4
    obtain ⟨x6_1, x126000_1, x126001_1, x126002_1, x126003_1, rfl, HA, HK1, BK124, BK125, HB⟩ := hrel
    cases gk with
    | zero => exact absurd HA.out (by simp [spec_SessionOf.l0])
    | succ k1 =>
      have H := HA.out
      clear HA
      simp only [spec_SessionOf.l0] at H
      by_cases c5 : x6_1 < (l0_1.length : Int)
      rotate_left
      · rw [if_neg c5] at H
        have c5b0 : decide (x6_1 < (l0_1.length : Int)) = false := decide_eq_false c5
        clear c5
        simp only [Option.some.injEq, Prod.mk.injEq] at H
        obtain ⟨rfl, rfl, rfl, rfl, rfl⟩ := H
        have hnb13 := NB124_125.out
        have hnc13 := NB125_124.out
        have hcz14_0 : wr.cell? ⟨gb124, 0, none⟩ = some (.slice A0_0 l0_0.length c0_0) := (uI BK124.out 0).trans rfl
        have hcz14_1 : wr.cell? ⟨gb124, 1, none⟩ = some (.slice A0_1 l0_1.length c0_1) := (uI BK124.out 1).trans rfl
        have hfz14_0 := uK BK124.out 0
        have hfz14_1 := uK BK124.out 1
        have hcz15_0 : wr.cell? ⟨gb125, 0, none⟩ = some (.int .i64 x126000_1) := (uI BK125.out 0).trans rfl
        have hcz15_1 : wr.cell? ⟨gb125, 1, none⟩ = some (.int .i64 x126001_1) := (uI BK125.out 1).trans rfl
        have hcz15_2 : wr.cell? ⟨gb125, 2, none⟩ = some (.bool x126002_1) := (uI BK125.out 2).trans rfl
        have hcz15_3 : wr.cell? ⟨gb125, 3, none⟩ = some (.int .i64 x126003_1) := (uI BK125.out 3).trans rfl
        have hfz15_0 := uK BK125.out 0
        have hfz15_1 := uK BK125.out 1
        have hfz15_2 := uK BK125.out 2
        have hfz15_3 := uK BK125.out 3
        go_wp2
        refine bodyPost_ret (results_ct rfl _ _ gb125 49 #[.int .i64 0, .int .i64 0, .bool false, .int .i64 0] (0, 0) _ rfl (by (with_reducible repeat (first | refine uC ?_ _ | refine uE ?_ | refine uD ?_ _)); refine uW (cs := #[.int .i64 0, .int .i64 0, .bool false, .int .i64 x126003_1]) ?_ 3 _ rfl; (with_reducible repeat (first | refine uC ?_ _ | refine uE ?_ | refine uD ?_ _)); refine uW (cs := #[.int .i64 0, .int .i64 0, .bool x126002_1, .int .i64 x126003_1]) ?_ 2 _ rfl; (with_reducible repeat (first | refine uC ?_ _ | refine uE ?_ | refine uD ?_ _)); refine uW (cs := #[.int .i64 0, .int .i64 x126001_1, .bool x126002_1, .int .i64 x126003_1]) ?_ 1 _ rfl; (with_reducible repeat (first | refine uC ?_ _ | refine uE ?_ | refine uD ?_ _)); refine uW (cs := #[.int .i64 x126000_1, .int .i64 x126001_1, .bool x126002_1, .int .i64 x126003_1]) ?_ 0 _ rfl; (with_reducible repeat (first | refine uC ?_ _ | refine uE ?_ | refine uD ?_ _)); exact BK125.out) Try.underlying49 rfl (by kernel_rfl)) rfl ?_
        exact ⟨by first | rfl | (simp [errW_none, errW_some] <;> rfl) | (simp [*, errW_none, errW_some] <;> rfl), by repeat (first | (with_reducible first | exact HB.out | apply uG | apply uA | apply uF | refine uB ?_ GE124.out | refine uB ?_ GE125.out) | exact HB.out)⟩
      rw [if_pos c5] at H
      have c5b0 : decide (x6_1 < (l0_1.length : Int)) = true := decide_eq_true c5
      clear c5
      by_cases c6 : 0 ≤ x6_1
      rotate_left
      · rw [if_neg c6] at H
        exact absurd H (by simp)
      rw [if_pos c6] at H
      have c6b0 : decide (0 ≤ x6_1) = true := decide_eq_true c6
      clear c6
      by_cases c7 : ((rd_T49 l0_1 x6_1).f0) = a1
      rotate_left
      · rw [if_neg c7] at H
        have c7b0 : (((rd_T49 l0_1 x6_1).f0) == a1) = false := beq_eq_false_iff_ne.mpr c7
        have c7b1 : (((rd_T49 l0_1 x6_1).f0) != a1) = true := bne_iff_ne.mpr c7
        have H' := Aside0.mk H
        clear H
        have hnb11 := NB124_125.out
        have hnc11 := NB125_124.out
        have hcz12_0 : wr.cell? ⟨gb124, 0, none⟩ = some (.slice A0_0 l0_0.length c0_0) := (uI BK124.out 0).trans rfl
        have hcz12_1 : wr.cell? ⟨gb124, 1, none⟩ = some (.slice A0_1 l0_1.length c0_1) := (uI BK124.out 1).trans rfl
        have hfz12_0 := uK BK124.out 0
        have hfz12_1 := uK BK124.out 1
        have p126 : 0 ≤ (x6_1 : Int) := of_decide_eq_true (by first | (with_reducible assumption) | assumption)
        have q126 : x6_1 < (l0_1.length : Int) := of_decide_eq_true (by first | (with_reducible assumption) | assumption)
        obtain ⟨ad126, e126, hx126_0, hx126_1, hx126_2, hx126_3⟩ := at_T49 HR0_1.out x6_1 p126 q126
        cases e126
        replace hx126_0 := (HB.out.cell (yA w _ hx126_0)).trans hx126_0
        replace hx126_1 := (HB.out.cell (yA w _ hx126_1)).trans hx126_1
        replace hx126_2 := (HB.out.cell (yA w _ hx126_2)).trans hx126_2
        replace hx126_3 := (HB.out.cell (yA w _ hx126_3)).trans hx126_3
        replace p126 := eq_true p126
        replace q126 := eq_true q126
        go_wp2
        go_roundg k1
        case measure => have := HK1.out; omega
        case rel => exact ⟨(wrap64 (x6_1 + 1)), (x126000_1), (x126001_1), (x126002_1), (x126003_1), (by first | rfl | (simp; done) | (simp [*]; done)), H', ⟨by have := HK1.out; omega⟩, ⟨by (with_reducible repeat (first | refine uC ?_ _ | refine uE ?_ | refine uD ?_ _)); exact BK124.out⟩, ⟨by (with_reducible repeat (first | refine uC ?_ _ | refine uE ?_ | refine uD ?_ _)); exact BK125.out⟩, ⟨by repeat (first | (with_reducible first | exact HB.out | apply uG | apply uA | apply uF | refine uB ?_ GE124.out | refine uB ?_ GE125.out) | exact HB.out)⟩⟩
      rw [if_pos c7] at H
      have c7b0 : (((rd_T49 l0_1 x6_1).f0) == a1) = true := beq_iff_eq.mpr c7
      have c7b1 : (((rd_T49 l0_1 x6_1).f0) != a1) = false := bne_eq_false_iff_eq.mpr c7
      clear c7
      simp only [Option.some.injEq, Prod.mk.injEq] at H
      obtain ⟨rfl, rfl, rfl, rfl, rfl⟩ := H
      have hnb8 := NB124_125.out
      have hnc8 := NB125_124.out
      have hcz9_0 : wr.cell? ⟨gb124, 0, none⟩ = some (.slice A0_0 l0_0.length c0_0) := (uI BK124.out 0).trans rfl
      have hcz9_1 : wr.cell? ⟨gb124, 1, none⟩ = some (.slice A0_1 l0_1.length c0_1) := (uI BK124.out 1).trans rfl
      have hfz9_0 := uK BK124.out 0
      have hfz9_1 := uK BK124.out 1
      have p126 : 0 ≤ (x6_1 : Int) := of_decide_eq_true (by first | (with_reducible assumption) | assumption)
      have q126 : x6_1 < (l0_1.length : Int) := of_decide_eq_true (by first | (with_reducible assumption) | assumption)
      obtain ⟨ad126, e126, hx126_0, hx126_1, hx126_2, hx126_3⟩ := at_T49 HR0_1.out x6_1 p126 q126
      cases e126
      replace hx126_0 := (HB.out.cell (yA w _ hx126_0)).trans hx126_0
      replace hx126_1 := (HB.out.cell (yA w _ hx126_1)).trans hx126_1
      replace hx126_2 := (HB.out.cell (yA w _ hx126_2)).trans hx126_2
      replace hx126_3 := (HB.out.cell (yA w _ hx126_3)).trans hx126_3
      replace p126 := eq_true p126
      replace q126 := eq_true q126
      have p127 : 0 ≤ (x6_1 : Int) := of_decide_eq_true (by first | (with_reducible assumption) | assumption)
      have q127 : x6_1 < (l0_1.length : Int) := of_decide_eq_true (by first | (with_reducible assumption) | assumption)
      obtain ⟨ad127, e127, hx127_0, hx127_1, hx127_2, hx127_3⟩ := at_T49 HR0_1.out x6_1 p127 q127
      obtain rfl : ad126 = ad127 := (by injection e127)
      replace hx127_0 := (HB.out.cell (yA w _ hx127_0)).trans hx127_0
      replace hx127_1 := (HB.out.cell (yA w _ hx127_1)).trans hx127_1
      replace hx127_2 := (HB.out.cell (yA w _ hx127_2)).trans hx127_2
      replace hx127_3 := (HB.out.cell (yA w _ hx127_3)).trans hx127_3
      replace p127 := eq_true p127
      replace q127 := eq_true q127
      have hcz10_0 : wr.cell? ⟨gb125, 0, none⟩ = some (.int .i64 x126000_1) := (uI BK125.out 0).trans rfl
      have hcz10_1 : wr.cell? ⟨gb125, 1, none⟩ = some (.int .i64 x126001_1) := (uI BK125.out 1).trans rfl
      have hcz10_2 : wr.cell? ⟨gb125, 2, none⟩ = some (.bool x126002_1) := (uI BK125.out 2).trans rfl
      have hcz10_3 : wr.cell? ⟨gb125, 3, none⟩ = some (.int .i64 x126003_1) := (uI BK125.out 3).trans rfl
      have hfz10_0 := uK BK125.out 0
      have hfz10_1 := uK BK125.out 1
      have hfz10_2 := uK BK125.out 2
      have hfz10_3 := uK BK125.out 3
      go_wp2
      refine bodyPost_ret (results_ct rfl _ _ gb125 49 #[.int .i64 ((rd_T49 l0_1 x6_1).f0), .int .i64 ((rd_T49 l0_1 x6_1).f1), .bool ((rd_T49 l0_1 x6_1).f2.f0), .int .i64 ((rd_T49 l0_1 x6_1).f2.f1)] (0, 0) _ rfl (by (with_reducible repeat (first | refine uC ?_ _ | refine uE ?_ | refine uD ?_ _)); refine uW (cs := #[.int .i64 ((rd_T49 l0_1 x6_1).f0), .int .i64 ((rd_T49 l0_1 x6_1).f1), .bool ((rd_T49 l0_1 x6_1).f2.f0), .int .i64 x126003_1]) ?_ 3 _ rfl; (with_reducible repeat (first | refine uC ?_ _ | refine uE ?_ | refine uD ?_ _)); refine uW (cs := #[.int .i64 ((rd_T49 l0_1 x6_1).f0), .int .i64 ((rd_T49 l0_1 x6_1).f1), .bool x126002_1, .int .i64 x126003_1]) ?_ 2 _ rfl; (with_reducible repeat (first | refine uC ?_ _ | refine uE ?_ | refine uD ?_ _)); refine uW (cs := #[.int .i64 ((rd_T49 l0_1 x6_1).f0), .int .i64 x126001_1, .bool x126002_1, .int .i64 x126003_1]) ?_ 1 _ rfl; (with_reducible repeat (first | refine uC ?_ _ | refine uE ?_ | refine uD ?_ _)); refine uW (cs := #[.int .i64 x126000_1, .int .i64 x126001_1, .bool x126002_1, .int .i64 x126003_1]) ?_ 0 _ rfl; (with_reducible repeat (first | refine uC ?_ _ | refine uE ?_ | refine uD ?_ _)); exact BK125.out) Try.underlying49 rfl (by kernel_rfl)) rfl ?_
      exact ⟨by first | rfl | (simp [errW_none, errW_some] <;> rfl) | (simp [*, errW_none, errW_some] <;> rfl), by repeat (first | (with_reducible first | exact HB.out | apply uG | apply uA | apply uF | refine uB ?_ GE124.out | refine uB ?_ GE125.out) | exact HB.out)⟩

end Go.Proofs.Ytcikahnmiiichaa.T
