/- Go functions as Lean functions, and the proof that the code comes to them: written by a program of this session out of the translation. -/
import Derived.Test.YtcikahnmiiichaaM0
namespace Go.Proofs.Ytcikahnmiiichaa.M
open List renaming setIfInBounds_toArray → vO, set_cons_zero → vP, set_cons_succ → vQ, map_toArray → vR
open Go.World renaming block_lt_of_cell? → vU
open Go.RowKit Go.Proofs.YtcikahnmiiichaaW.PrintWords Go.Proofs.YtcikahnmiiichaaW.PrintLast Go.Proofs.YtcikahnmiiichaaW.PrintMore
attribute [local go_sem] max2_int min2_int max_two min_two max_three min_three max_four min_four   -- for this text's walks alone
set_option linter.unusedVariables false
set_option linter.unusedSimpArgs false

/-! ### spec_SessionOf: function 46 -/
def spec_SessionOf.l0 : Nat → Int → Int → List Int → List (S49) → Option (Int × Int × Bool × Int × Bool)
  | 0, _, _, _, _ => none
  | k + 1, x1, x6, x123000, x123001 => if x6 < (x123001.length : Int) then (if 0 ≤ x6 then (if ((rd_T49 x123001 x6).f0) = x1 then (some ((rd_T49 x123001 x6).f0, (rd_T49 x123001 x6).f1, (rd_T49 x123001 x6).f2.f0, (rd_T49 x123001 x6).f2.f1, true)) else (spec_SessionOf.l0 k x1 (wrap64 (x6 + 1)) x123000 x123001)) else (none)) else (some (0, 0, false, 0, false))
def spec_SessionOf.f (k : Nat) (l0_0 : List Int) (l0_1 : List (S49)) (a1 : Int) : Option (Int × Int × Bool × Int × Bool) := spec_SessionOf.l0 k a1 0 l0_0 l0_1
theorem spec_SessionOf.mono_l : ∀ k, (∀ y0 y1 y2 y3, uN (spec_SessionOf.l0 k y0 y1 y2 y3) (spec_SessionOf.l0 (k + 1) y0 y1 y2 y3))
  | 0 => fun _ _ _ _ r h => by simp [spec_SessionOf.l0] at h
  | k + 1 => by
    have ih0 := spec_SessionOf.mono_l k
    intro y0 y1 y2 y3
    unfold spec_SessionOf.l0
    repeat' first
    | (with_reducible exact ih0 _ _ _ _)
    | (with_reducible exact uN.refl _)
    | (with_reducible exact uN.none _)
    | (with_reducible refine uN.ite ?_ ?_)
    | (with_reducible refine uN.bind ?_ (fun _ => ?_))
    | exact ih0 _ _ _ _
    | exact uN.none _
    | refine uN.ite ?_ ?_
    | refine uN.bind ?_ (fun _ => ?_)
theorem spec_SessionOf.mono : ∀ a0 a1 a2 k, uN (spec_SessionOf.f k a0 a1 a2) (spec_SessionOf.f (k + 1) a0 a1 a2) := by
  intro a0 a1 a2 k
  have ih0 := spec_SessionOf.mono_l k
  unfold spec_SessionOf.f
  repeat' first
      | (with_reducible exact ih0 _ _ _ _)
      | (with_reducible exact uN.refl _)
      | (with_reducible exact uN.none _)
      | (with_reducible refine uN.ite ?_ ?_)
      | (with_reducible refine uN.bind ?_ (fun _ => ?_))
      | exact ih0 _ _ _ _
      | exact uN.none _
      | refine uN.ite ?_ ?_
      | refine uN.bind ?_ (fun _ => ?_)
set_option maxHeartbeats 8000000 in
set_option maxRecDepth 100000 in
theorem spec_SessionOf.calls (k : Nat) (A0_0 : Option Addr) (c0_0 : Nat) (l0_0 : List Int) (A0_1 : Option Addr) (c0_1 : Nat) (l0_1 : List (S49)) (a1 : Int) (r1 : Int) (r2 : Int) (r3 : Bool) (r4 : Int) (r5 : Bool) (w : World) (hr0_0 : Kd.C (Kd.int .i64) w A0_0 l0_0.length l0_0) (hc0_0 : l0_0.length ≤ c0_0) (hr0_1 : Kd.C k49 w A0_1 l0_1.length l0_1) (hc0_1 : l0_1.length ≤ c0_1) (h : spec_SessionOf.f k l0_0 l0_1 a1 = some (r1, r2, r3, r4, r5)) :
    Calls Try.prog 46 #[.agg #[.slice A0_0 l0_0.length c0_0, .slice A0_1 l0_1.length c0_1], .int .i64 a1] w fun e w' => e = .returned (.tuple #[.agg #[.int .i64 r1, .int .i64 r2, .bool r3, .int .i64 r4], .bool r5]) ∧ Below w.heap.size w w' := by
  have hu31 := Try.underlying31
  have hu49 := Try.underlying49
  have HR0_0 := Aside0.mk hr0_0
  have HC0_0 := Aside0.mk hc0_0
  clear hr0_0 hc0_0
  have HR0_1 := Aside0.mk hr0_1
  have HC0_1 := Aside0.mk hc0_1
  clear hr0_1 hc0_1
  have HB := Aside0.mk (Below.refl w.heap.size w)
  have H : (spec_SessionOf.l0 k a1 0 l0_0 l0_1) = some (r1, r2, r3, r4, r5) := h
  clear h
  have H' := Aside0.mk H
  clear H
  go_enter Try.func46, Try.ntmps46
  go_wp2_with (first | ((with_reducible refine uI (N := 2) rfl ?_); refine bxe 2 #[.slice A0_0 l0_0.length c0_0, .slice A0_1 l0_1.length c0_1] 31 ?_; intro gb122 hg w3 hbox hb; have BK122 := Aside0.mk (hbox); have GW122 := tGe HB hg; have GE122 := tGe HB hg; replace HB := tBel HB hb; clear hb hbox hg) | ((with_reducible refine uI (N := 4) rfl ?_); refine bxe 4 #[.int .i64 0, .int .i64 0, .bool false, .int .i64 0] 49 ?_; intro gb123 hg w4 hbox hb; have BK123 := Aside0.mk (hbox); have GW123 := tGe HB hg; have GE123 := tGe HB hg; have NB122_123 := tNl BK122 hg; have NB123_122 := tNg BK122 hg; replace BK122 := uL BK122 hb; replace HB := tBel HB hb; clear hb hbox hg))
  go_loopg [6] k (fun kq v6 w' => ∃ (x6_1 : Int) (x124000_1 : Int) (x124001_1 : Int) (x124002_1 : Bool) (x124003_1 : Int), v6 = .int .i64 x6_1 ∧ Aside0 (spec_SessionOf.l0 kq a1 x6_1 l0_0 l0_1 = some (r1, r2, r3, r4, r5)) ∧ Aside0 (kq ≤ k) ∧ Aside0 (w'.heap[gb122]? = some (.cells #[(.slice A0_0 l0_0.length c0_0), (.slice A0_1 l0_1.length c0_1)] 31 (0, 0))) ∧ Aside0 (w'.heap[gb123]? = some (.cells #[.int .i64 x124000_1, .int .i64 x124001_1, .bool x124002_1, .int .i64 x124003_1] 49 (0, 0))) ∧ Aside0 (Below w.heap.size w w'))
  case atStart => exact ⟨(0), (0), (0), (false), (0), q43, H', ⟨Nat.le_refl _⟩, ⟨by (with_reducible repeat (first | refine uF ?_ _ | refine uB ?_ | refine uE ?_ _)); exact BK122.out⟩, ⟨by (with_reducible repeat (first | refine uF ?_ _ | refine uB ?_ | refine uE ?_ _)); exact BK123.out⟩, ⟨q1⟩⟩
  case round =>
    clear H'
    try clear p2
    try clear c4
    obtain ⟨x6_1, x124000_1, x124001_1, x124002_1, x124003_1, rfl, HA, HK1, BK122, BK123, HB⟩ := hrel
    cases gk with
    | zero => exact absurd HA.out (by simp [spec_SessionOf.l0])
    | succ k1 =>
      have H := HA.out
      clear HA
      simp only [spec_SessionOf.l0] at H
      by_cases c5 : x6_1 < (l0_1.length : Int)
      rotate_left
      · rw [if_neg c5] at H
        have c5b0 : decide (x6_1 < (l0_1.length : Int)) = false := decide_eq_false c5
        clear c5
        simp only [Option.some.injEq, Prod.mk.injEq] at H
        obtain ⟨rfl, rfl, rfl, rfl, rfl⟩ := H
        have hnb13 := NB122_123.out
        have hnc13 := NB123_122.out
        obtain ⟨hcz14_0, hcz14_1, hfz14_0, hfz14_1⟩ := cz2 BK122
        obtain ⟨hcz15_0, hcz15_1, hcz15_2, hcz15_3, hfz15_0, hfz15_1, hfz15_2, hfz15_3⟩ := cz4 BK123
        go_wp2
        refine bodyPost_ret (results_ct rfl _ _ gb123 49 #[.int .i64 0, .int .i64 0, .bool false, .int .i64 0] (0, 0) _ rfl (by (with_reducible repeat (first | refine uF ?_ _ | refine uB ?_ | refine uE ?_ _)); refine uK (cs := #[.int .i64 0, .int .i64 0, .bool false, .int .i64 x124003_1]) ?_ 3 _ rfl; (with_reducible repeat (first | refine uF ?_ _ | refine uB ?_ | refine uE ?_ _)); refine uK (cs := #[.int .i64 0, .int .i64 0, .bool x124002_1, .int .i64 x124003_1]) ?_ 2 _ rfl; (with_reducible repeat (first | refine uF ?_ _ | refine uB ?_ | refine uE ?_ _)); refine uK (cs := #[.int .i64 0, .int .i64 x124001_1, .bool x124002_1, .int .i64 x124003_1]) ?_ 1 _ rfl; (with_reducible repeat (first | refine uF ?_ _ | refine uB ?_ | refine uE ?_ _)); refine uK (cs := #[.int .i64 x124000_1, .int .i64 x124001_1, .bool x124002_1, .int .i64 x124003_1]) ?_ 0 _ rfl; (with_reducible repeat (first | refine uF ?_ _ | refine uB ?_ | refine uE ?_ _)); exact BK123.out) Try.underlying49 rfl (by kernel_rfl)) rfl ?_
        exact ⟨q5, q1⟩
      rw [if_pos c5] at H
      have c5b0 : decide (x6_1 < (l0_1.length : Int)) = true := decide_eq_true c5
      clear c5
      by_cases c6 : 0 ≤ x6_1
      rotate_left
      · rw [if_neg c6] at H
        exact absurd H (by simp)
      rw [if_pos c6] at H
      have c6b0 : decide (0 ≤ x6_1) = true := decide_eq_true c6
      clear c6
      by_cases c7 : ((rd_T49 l0_1 x6_1).f0) = a1
      rotate_left
      · rw [if_neg c7] at H
        have c7b0 : (((rd_T49 l0_1 x6_1).f0) == a1) = false := beq_eq_false_iff_ne.mpr c7
        have c7b1 : (((rd_T49 l0_1 x6_1).f0) != a1) = true := bne_iff_ne.mpr c7
        have H' := Aside0.mk H
        clear H
        have hnb11 := NB122_123.out
        have hnc11 := NB123_122.out
        obtain ⟨hcz12_0, hcz12_1, hfz12_0, hfz12_1⟩ := cz2 BK122
        have p124 : 0 ≤ (x6_1 : Int) := of_decide_eq_true q25
        have q124 : x6_1 < (l0_1.length : Int) := of_decide_eq_true q25
        obtain ⟨ad124, e124, hx124_0, hx124_1, hx124_2, hx124_3⟩ := at_T49 HR0_1.out x6_1 p124 q124
        cases e124
        replace hx124_0 := (HB.out.cell (vU w _ hx124_0)).trans hx124_0
        replace hx124_1 := (HB.out.cell (vU w _ hx124_1)).trans hx124_1
        replace hx124_2 := (HB.out.cell (vU w _ hx124_2)).trans hx124_2
        replace hx124_3 := (HB.out.cell (vU w _ hx124_3)).trans hx124_3
        replace p124 := eq_true p124
        replace q124 := eq_true q124
        go_wp2
        go_roundg k1
        case measure => have := HK1.out; omega
        case rel => exact ⟨(wrap64 (x6_1 + 1)), (x124000_1), (x124001_1), (x124002_1), (x124003_1), q43, H', ⟨by have := HK1.out; omega⟩, ⟨by (with_reducible repeat (first | refine uF ?_ _ | refine uB ?_ | refine uE ?_ _)); exact BK122.out⟩, ⟨by (with_reducible repeat (first | refine uF ?_ _ | refine uB ?_ | refine uE ?_ _)); exact BK123.out⟩, ⟨q1⟩⟩
      rw [if_pos c7] at H
      have c7b0 : (((rd_T49 l0_1 x6_1).f0) == a1) = true := beq_iff_eq.mpr c7
      have c7b1 : (((rd_T49 l0_1 x6_1).f0) != a1) = false := bne_eq_false_iff_eq.mpr c7
      clear c7
      simp only [Option.some.injEq, Prod.mk.injEq] at H
      obtain ⟨rfl, rfl, rfl, rfl, rfl⟩ := H
      have hnb8 := NB122_123.out
      have hnc8 := NB123_122.out
      obtain ⟨hcz9_0, hcz9_1, hfz9_0, hfz9_1⟩ := cz2 BK122
      have p124 : 0 ≤ (x6_1 : Int) := of_decide_eq_true q25
      have q124 : x6_1 < (l0_1.length : Int) := of_decide_eq_true q25
      obtain ⟨ad124, e124, hx124_0, hx124_1, hx124_2, hx124_3⟩ := at_T49 HR0_1.out x6_1 p124 q124
      cases e124
      replace hx124_0 := (HB.out.cell (vU w _ hx124_0)).trans hx124_0
      replace hx124_1 := (HB.out.cell (vU w _ hx124_1)).trans hx124_1
      replace hx124_2 := (HB.out.cell (vU w _ hx124_2)).trans hx124_2
      replace hx124_3 := (HB.out.cell (vU w _ hx124_3)).trans hx124_3
      replace p124 := eq_true p124
      replace q124 := eq_true q124
      have p125 : 0 ≤ (x6_1 : Int) := of_decide_eq_true q25
      have q125 : x6_1 < (l0_1.length : Int) := of_decide_eq_true q25
      obtain ⟨ad125, e125, hx125_0, hx125_1, hx125_2, hx125_3⟩ := at_T49 HR0_1.out x6_1 p125 q125
      obtain rfl : ad124 = ad125 := (by injection e125)
      replace hx125_0 := (HB.out.cell (vU w _ hx125_0)).trans hx125_0
      replace hx125_1 := (HB.out.cell (vU w _ hx125_1)).trans hx125_1
      replace hx125_2 := (HB.out.cell (vU w _ hx125_2)).trans hx125_2
      replace hx125_3 := (HB.out.cell (vU w _ hx125_3)).trans hx125_3
      replace p125 := eq_true p125
      replace q125 := eq_true q125
      obtain ⟨hcz10_0, hcz10_1, hcz10_2, hcz10_3, hfz10_0, hfz10_1, hfz10_2, hfz10_3⟩ := cz4 BK123
      go_wp2
      refine bodyPost_ret (results_ct rfl _ _ gb123 49 #[.int .i64 ((rd_T49 l0_1 x6_1).f0), .int .i64 ((rd_T49 l0_1 x6_1).f1), .bool ((rd_T49 l0_1 x6_1).f2.f0), .int .i64 ((rd_T49 l0_1 x6_1).f2.f1)] (0, 0) _ rfl (by (with_reducible repeat (first | refine uF ?_ _ | refine uB ?_ | refine uE ?_ _)); refine uK (cs := #[.int .i64 ((rd_T49 l0_1 x6_1).f0), .int .i64 ((rd_T49 l0_1 x6_1).f1), .bool ((rd_T49 l0_1 x6_1).f2.f0), .int .i64 x124003_1]) ?_ 3 _ rfl; (with_reducible repeat (first | refine uF ?_ _ | refine uB ?_ | refine uE ?_ _)); refine uK (cs := #[.int .i64 ((rd_T49 l0_1 x6_1).f0), .int .i64 ((rd_T49 l0_1 x6_1).f1), .bool x124002_1, .int .i64 x124003_1]) ?_ 2 _ rfl; (with_reducible repeat (first | refine uF ?_ _ | refine uB ?_ | refine uE ?_ _)); refine uK (cs := #[.int .i64 ((rd_T49 l0_1 x6_1).f0), .int .i64 x124001_1, .bool x124002_1, .int .i64 x124003_1]) ?_ 1 _ rfl; (with_reducible repeat (first | refine uF ?_ _ | refine uB ?_ | refine uE ?_ _)); refine uK (cs := #[.int .i64 x124000_1, .int .i64 x124001_1, .bool x124002_1, .int .i64 x124003_1]) ?_ 0 _ rfl; (with_reducible repeat (first | refine uF ?_ _ | refine uB ?_ | refine uE ?_ _)); exact BK123.out) Try.underlying49 rfl (by kernel_rfl)) rfl ?_
      exact ⟨q5, q1⟩

end Go.Proofs.Ytcikahnmiiichaa.M
