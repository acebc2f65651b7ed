/- Go functions as Lean functions, and the proof that the code comes to them: written by a program of this session out of the translation. -/
import Derived.Test.YtcikahnmiiichaaN0
namespace Go.Proofs.Ytcikahnmiiichaa.N
open List renaming setIfInBounds_toArray → yA, set_cons_zero → yB, set_cons_succ → yC, map_toArray → yD
open Go.World renaming block_lt_of_cell? → yG
open Go.RowKit Go.Proofs.YtcikahnmiiichaaW.PrintWords Go.Proofs.YtcikahnmiiichaaW.PrintLast Go.Proofs.YtcikahnmiiichaaW.PrintMore
attribute [local go_sem] max2_int min2_int max_two min_two vX vY max_four min_four   -- for this text's walks alone
set_option linter.unusedVariables false
set_option linter.unusedSimpArgs false

/-! ### spec_SessionOf: function 46 -/
def spec_SessionOf.l0 : Nat → Int → Int → List Int → List (S49) → Option (Int × Int × Bool × Int × Bool)
  | 0, _, _, _, _ => none
  | k + 1, x1, x6, x131000, x131001 => if x6 < (x131001.length : Int) then (if 0 ≤ x6 then (if ((rd_T49 x131001 x6).f0) = x1 then (some ((rd_T49 x131001 x6).f0, (rd_T49 x131001 x6).f1, (rd_T49 x131001 x6).f2.f0, (rd_T49 x131001 x6).f2.f1, true)) else (spec_SessionOf.l0 k x1 (wrap64 (x6 + 1)) x131000 x131001)) else (none)) else (some (0, 0, false, 0, false))
def spec_SessionOf.f (k : Nat) (l0_0 : List Int) (l0_1 : List (S49)) (a1 : Int) : Option (Int × Int × Bool × Int × Bool) := spec_SessionOf.l0 k a1 0 l0_0 l0_1
theorem spec_SessionOf.mono_l : ∀ k, (∀ y0 y1 y2 y3, uI (spec_SessionOf.l0 k y0 y1 y2 y3) (spec_SessionOf.l0 (k + 1) y0 y1 y2 y3))
  | 0 => fun _ _ _ _ r h => by simp [spec_SessionOf.l0] at h
  | k + 1 => by
    have ih0 := spec_SessionOf.mono_l k
    intro y0 y1 y2 y3
    unfold spec_SessionOf.l0
    repeat' first
    | (with_reducible exact ih0 _ _ _ _)
    | (with_reducible exact uI.refl _)
    | (with_reducible exact uI.none _)
    | (with_reducible refine uI.ite ?_ ?_)
    | (with_reducible refine uI.bind ?_ (fun _ => ?_))
    | exact ih0 _ _ _ _
    | exact uI.none _
    | refine uI.ite ?_ ?_
    | refine uI.bind ?_ (fun _ => ?_)
theorem spec_SessionOf.mono : ∀ a0 a1 a2 k, uI (spec_SessionOf.f k a0 a1 a2) (spec_SessionOf.f (k + 1) a0 a1 a2) := by
  intro a0 a1 a2 k
  have ih0 := spec_SessionOf.mono_l k
  unfold spec_SessionOf.f
  repeat' first
      | (with_reducible exact ih0 _ _ _ _)
      | (with_reducible exact uI.refl _)
      | (with_reducible exact uI.none _)
      | (with_reducible refine uI.ite ?_ ?_)
      | (with_reducible refine uI.bind ?_ (fun _ => ?_))
      | exact ih0 _ _ _ _
      | exact uI.none _
      | refine uI.ite ?_ ?_
      | refine uI.bind ?_ (fun _ => ?_)
set_option maxHeartbeats 8000000 in
set_option maxRecDepth 100000 in
theorem spec_SessionOf.calls (k : Nat) (A0_0 : Option Addr) (c0_0 : Nat) (l0_0 : List Int) (A0_1 : Option Addr) (c0_1 : Nat) (l0_1 : List (S49)) (a1 : Int) (r1 : Int) (r2 : Int) (r3 : Bool) (r4 : Int) (r5 : Bool) (w : World) (hr0_0 : Kd.C (Kd.int .i64) w A0_0 l0_0.length l0_0) (hc0_0 : l0_0.length ≤ c0_0) (hr0_1 : Kd.C k49 w A0_1 l0_1.length l0_1) (hc0_1 : l0_1.length ≤ c0_1) (h : spec_SessionOf.f k l0_0 l0_1 a1 = some (r1, r2, r3, r4, r5)) :
    Calls Try.prog 46 #[.agg #[.slice A0_0 l0_0.length c0_0, .slice A0_1 l0_1.length c0_1], .int .i64 a1] w fun e w' => e = .returned (.tuple #[.agg #[.int .i64 r1, .int .i64 r2, .bool r3, .int .i64 r4], .bool r5]) ∧ Below w.heap.size w w' := by
  have hu31 := Try.underlying31
  have hu49 := Try.underlying49
  have HR0_0 := Aside0.mk hr0_0
  have HC0_0 := Aside0.mk hc0_0
  clear hr0_0 hc0_0
  have HR0_1 := Aside0.mk hr0_1
  have HC0_1 := Aside0.mk hc0_1
  clear hr0_1 hc0_1
  have HB := Aside0.mk (Below.refl w.heap.size w)
  have H : (spec_SessionOf.l0 k a1 0 l0_0 l0_1) = some (r1, r2, r3, r4, r5) := h
  clear h
  have H' := Aside0.mk H
  clear H
  go_enter Try.func46, Try.ntmps46
  go_wp2_with (first | ((with_reducible refine uJ (N := 2) rfl ?_); refine bxe 2 #[.slice A0_0 l0_0.length c0_0, .slice A0_1 l0_1.length c0_1] 31 ?_; intro gb130 hg w3 hbox hb; have BK130 := Aside0.mk (hbox); have GW130 := tGe HB hg; have GE130 := tGe HB hg; replace HB := vB HB hb; clear hb hbox hg) | ((with_reducible refine uJ (N := 4) rfl ?_); refine bxe 4 #[.int .i64 0, .int .i64 0, .bool false, .int .i64 0] 49 ?_; intro gb131 hg w4 hbox hb; have BK131 := Aside0.mk (hbox); have GW131 := tGe HB hg; have GE131 := tGe HB hg; have NB130_131 := tNl BK130 hg; have NB131_130 := tNg BK130 hg; replace BK130 := uP BK130 hb; replace HB := vB HB hb; clear hb hbox hg))
  go_loopg [6] k (fun kq v6 w' => ∃ (x6_1 : Int) (x132000_1 : Int) (x132001_1 : Int) (x132002_1 : Bool) (x132003_1 : Int), v6 = .int .i64 x6_1 ∧ Aside0 (spec_SessionOf.l0 kq a1 x6_1 l0_0 l0_1 = some (r1, r2, r3, r4, r5)) ∧ Aside0 (kq ≤ k) ∧ Aside0 (w'.heap[gb130]? = some (.cells #[(.slice A0_0 l0_0.length c0_0), (.slice A0_1 l0_1.length c0_1)] 31 (0, 0))) ∧ Aside0 (w'.heap[gb131]? = some (.cells #[.int .i64 x132000_1, .int .i64 x132001_1, .bool x132002_1, .int .i64 x132003_1] 49 (0, 0))) ∧ Aside0 (Below w.heap.size w w'))
  case atStart => exact ⟨(0), (0), (0), (false), (0), cq15, H', ⟨Nat.le_refl _⟩, ⟨by (with_reducible repeat (first | refine uC ?_ _ | refine uE ?_ | refine uD ?_ _)); exact BK130.out⟩, ⟨by (with_reducible repeat (first | refine uC ?_ _ | refine uE ?_ | refine uD ?_ _)); exact BK131.out⟩, ⟨vA⟩⟩
  case round =>
    clear H'
    obtain ⟨x6_1, x132000_1, x132001_1, x132002_1, x132003_1, rfl, HA, HK1, BK130, BK131, HB⟩ := hrel
    cases gk with
    | zero => exact absurd HA.out (by simp [spec_SessionOf.l0])
    | succ k1 =>
      have H := HA.out
      clear HA
      simp only [spec_SessionOf.l0] at H
      by_cases c5 : x6_1 < (l0_1.length : Int)
      rotate_left
      · rw [if_neg c5] at H
        have c5b0 := decide_eq_false c5
        clear c5
        simp only [Option.some.injEq, Prod.mk.injEq] at H
        obtain ⟨rfl, rfl, rfl, rfl, rfl⟩ := H
        have hnb13 := NB130_131.out
        have hnc13 := NB131_130.out
        obtain ⟨hcz14_0, hcz14_1, hfz14_0, hfz14_1⟩ := cz2 BK130
        obtain ⟨hcz15_0, hcz15_1, hcz15_2, hcz15_3, hfz15_0, hfz15_1, hfz15_2, hfz15_3⟩ := cz4 BK131
        go_wp2
        refine bodyPost_ret (results_ct rfl _ _ gb131 49 #[.int .i64 0, .int .i64 0, .bool false, .int .i64 0] (0, 0) _ rfl (by (with_reducible repeat (first | refine uC ?_ _ | refine uE ?_ | refine uD ?_ _)); refine uL (cs := #[.int .i64 0, .int .i64 0, .bool false, .int .i64 x132003_1]) ?_ 3 _ rfl; (with_reducible repeat (first | refine uC ?_ _ | refine uE ?_ | refine uD ?_ _)); refine uL (cs := #[.int .i64 0, .int .i64 0, .bool x132002_1, .int .i64 x132003_1]) ?_ 2 _ rfl; (with_reducible repeat (first | refine uC ?_ _ | refine uE ?_ | refine uD ?_ _)); refine uL (cs := #[.int .i64 0, .int .i64 x132001_1, .bool x132002_1, .int .i64 x132003_1]) ?_ 1 _ rfl; (with_reducible repeat (first | refine uC ?_ _ | refine uE ?_ | refine uD ?_ _)); refine uL (cs := #[.int .i64 x132000_1, .int .i64 x132001_1, .bool x132002_1, .int .i64 x132003_1]) ?_ 0 _ rfl; (with_reducible repeat (first | refine uC ?_ _ | refine uE ?_ | refine uD ?_ _)); exact BK131.out) Try.underlying49 rfl (by kernel_rfl)) rfl ?_
        exact ⟨cq3, vA⟩
      rw [if_pos c5] at H
      have c5b0 := decide_eq_true c5
      clear c5
      obtain ⟨c6b0, H⟩ := ifD H
      by_cases c7 : ((rd_T49 l0_1 x6_1).f0) = a1
      rotate_left
      · rw [if_neg c7] at H
        have c7b0 := beq_eq_false_iff_ne.mpr c7
        have c7b1 := bne_iff_ne.mpr c7
        have H' := Aside0.mk H
        clear H
        have hnb11 := NB130_131.out
        have hnc11 := NB131_130.out
        obtain ⟨hcz12_0, hcz12_1, hfz12_0, hfz12_1⟩ := cz2 BK130
        have p132 : 0 ≤ (x6_1 : Int) := of_decide_eq_true cq12
        have q132 : x6_1 < (l0_1.length : Int) := of_decide_eq_true cq12
        obtain ⟨ad132, e132, hx132_0, hx132_1, hx132_2, hx132_3⟩ := at_T49 HR0_1.out x6_1 p132 q132
        cases e132
        replace hx132_0 := (HB.out.cell (yG w _ hx132_0)).trans hx132_0
        replace hx132_1 := (HB.out.cell (yG w _ hx132_1)).trans hx132_1
        replace hx132_2 := (HB.out.cell (yG w _ hx132_2)).trans hx132_2
        replace hx132_3 := (HB.out.cell (yG w _ hx132_3)).trans hx132_3
        replace p132 := eq_true p132
        replace q132 := eq_true q132
        go_wp2
        go_roundg k1
        case measure => have := HK1.out; omega
        case rel => exact ⟨(wrap64 (x6_1 + 1)), (x132000_1), (x132001_1), (x132002_1), (x132003_1), cq15, H', ⟨by have := HK1.out; omega⟩, ⟨by (with_reducible repeat (first | refine uC ?_ _ | refine uE ?_ | refine uD ?_ _)); exact BK130.out⟩, ⟨by (with_reducible repeat (first | refine uC ?_ _ | refine uE ?_ | refine uD ?_ _)); exact BK131.out⟩, ⟨vA⟩⟩
      rw [if_pos c7] at H
      have c7b0 := beq_iff_eq.mpr c7
      have c7b1 := bne_eq_false_iff_eq.mpr c7
      clear c7
      simp only [Option.some.injEq, Prod.mk.injEq] at H
      obtain ⟨rfl, rfl, rfl, rfl, rfl⟩ := H
      have hnb8 := NB130_131.out
      have hnc8 := NB131_130.out
      obtain ⟨hcz9_0, hcz9_1, hfz9_0, hfz9_1⟩ := cz2 BK130
      have p132 : 0 ≤ (x6_1 : Int) := of_decide_eq_true cq12
      have q132 : x6_1 < (l0_1.length : Int) := of_decide_eq_true cq12
      obtain ⟨ad132, e132, hx132_0, hx132_1, hx132_2, hx132_3⟩ := at_T49 HR0_1.out x6_1 p132 q132
      cases e132
      replace hx132_0 := (HB.out.cell (yG w _ hx132_0)).trans hx132_0
      replace hx132_1 := (HB.out.cell (yG w _ hx132_1)).trans hx132_1
      replace hx132_2 := (HB.out.cell (yG w _ hx132_2)).trans hx132_2
      replace hx132_3 := (HB.out.cell (yG w _ hx132_3)).trans hx132_3
      replace p132 := eq_true p132
      replace q132 := eq_true q132
      have p133 : 0 ≤ (x6_1 : Int) := of_decide_eq_true cq12
      have q133 : x6_1 < (l0_1.length : Int) := of_decide_eq_true cq12
      obtain ⟨ad133, e133, hx133_0, hx133_1, hx133_2, hx133_3⟩ := at_T49 HR0_1.out x6_1 p133 q133
      obtain rfl : ad132 = ad133 := (by injection e133)
      replace hx133_0 := (HB.out.cell (yG w _ hx133_0)).trans hx133_0
      replace hx133_1 := (HB.out.cell (yG w _ hx133_1)).trans hx133_1
      replace hx133_2 := (HB.out.cell (yG w _ hx133_2)).trans hx133_2
      replace hx133_3 := (HB.out.cell (yG w _ hx133_3)).trans hx133_3
      replace p133 := eq_true p133
      replace q133 := eq_true q133
      obtain ⟨hcz10_0, hcz10_1, hcz10_2, hcz10_3, hfz10_0, hfz10_1, hfz10_2, hfz10_3⟩ := cz4 BK131
      go_wp2
      refine bodyPost_ret (results_ct rfl _ _ gb131 49 #[.int .i64 ((rd_T49 l0_1 x6_1).f0), .int .i64 ((rd_T49 l0_1 x6_1).f1), .bool ((rd_T49 l0_1 x6_1).f2.f0), .int .i64 ((rd_T49 l0_1 x6_1).f2.f1)] (0, 0) _ rfl (by (with_reducible repeat (first | refine uC ?_ _ | refine uE ?_ | refine uD ?_ _)); refine uL (cs := #[.int .i64 ((rd_T49 l0_1 x6_1).f0), .int .i64 ((rd_T49 l0_1 x6_1).f1), .bool ((rd_T49 l0_1 x6_1).f2.f0), .int .i64 x132003_1]) ?_ 3 _ rfl; (with_reducible repeat (first | refine uC ?_ _ | refine uE ?_ | refine uD ?_ _)); refine uL (cs := #[.int .i64 ((rd_T49 l0_1 x6_1).f0), .int .i64 ((rd_T49 l0_1 x6_1).f1), .bool x132002_1, .int .i64 x132003_1]) ?_ 2 _ rfl; (with_reducible repeat (first | refine uC ?_ _ | refine uE ?_ | refine uD ?_ _)); refine uL (cs := #[.int .i64 ((rd_T49 l0_1 x6_1).f0), .int .i64 x132001_1, .bool x132002_1, .int .i64 x132003_1]) ?_ 1 _ rfl; (with_reducible repeat (first | refine uC ?_ _ | refine uE ?_ | refine uD ?_ _)); refine uL (cs := #[.int .i64 x132000_1, .int .i64 x132001_1, .bool x132002_1, .int .i64 x132003_1]) ?_ 0 _ rfl; (with_reducible repeat (first | refine uC ?_ _ | refine uE ?_ | refine uD ?_ _)); exact BK131.out) Try.underlying49 rfl (by kernel_rfl)) rfl ?_
      exact ⟨cq3, vA⟩

end Go.Proofs.Ytcikahnmiiichaa.N
