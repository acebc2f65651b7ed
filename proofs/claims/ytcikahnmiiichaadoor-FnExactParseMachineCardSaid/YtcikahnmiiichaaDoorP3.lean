/- Go functions as Lean functions, and the proof that the code comes to them: written by a program of this session out of the translation. -/
import Derived.Test.YtcikahnmiiichaaDoorP0
import Derived.Test.YtcikahnmiiichaaDoorP2
namespace Go.Proofs.YtcikahnmiiichaaDoor.P
open List renaming setIfInBounds_toArray → uZ, set_cons_zero → vA, set_cons_succ → vB
open Go.World renaming block_lt_of_cell? → vF
open Go.Proofs.YtcikahnmiiichaaDoor.Given
open Go.RowKit Go.Proofs.YtcikahnmiiichaaDoorW.PrintWords Go.Proofs.YtcikahnmiiichaaDoorW.PrintLast Go.Proofs.YtcikahnmiiichaaDoorW.PrintMore
attribute [local go_sem] max2_int min2_int max_two min_two max_three min_three max_four min_four   -- for this text's walks alone
set_option linter.unusedVariables false
set_option linter.unusedSimpArgs false

/-! ### spec_l4Session: function 74 -/
def spec_l4Session.f (k : Nat) (a0 : ByteArray) : Option (Int × Int × Bool × Int) := if (a0.size : Int) < 5 then (some ((-1), 0, false, 0)) else (if 1 < (a0.size : Int) then (if (bt a0 1) = 46 then (if 0 < (a0.size : Int) then (if 2 ≤ (wrap64 ((a0.size : Int) - 2)) then (if (wrap64 ((a0.size : Int) - 2)) ≤ (a0.size : Int) then ((spec_l3Num.f k (a0.extract 2 ((wrap64 ((a0.size : Int) - 2)) : Int).toNat)).bind fun t121 => (if 0 ≤ (wrap64 ((a0.size : Int) - 2)) then (if (wrap64 ((a0.size : Int) - 2)) < (a0.size : Int) then (if 0 ≤ (wrap64 ((a0.size : Int) - 1)) then (if (wrap64 ((a0.size : Int) - 1)) < (a0.size : Int) then (some (wrap64 ((wrap64 (bt a0 0)) - 48), t121, ((bt a0 (wrap64 ((a0.size : Int) - 2))) == 43), wrap64 ((wrap64 (bt a0 (wrap64 ((a0.size : Int) - 1)))) - 48))) else (none)) else (none)) else (none)) else (none))) else (none)) else (none)) else (none)) else (some ((-1), 0, false, 0))) else (none))
theorem spec_l4Session.mono : ∀ a0 k, uA (spec_l4Session.f k a0) (spec_l4Session.f (k + 1) a0) := by
 intro a0 k
 unfold spec_l4Session.f
 repeat' first
   | (with_reducible exact spec_l3Num.mono _ _)
   | (with_reducible exact uA.refl _)
   | (with_reducible exact uA.none _)
   | (with_reducible refine uA.ite ?_ ?_)
   | (with_reducible refine uA.bind ?_ (fun _ => ?_))
   | exact uA.none _
   | refine uA.ite ?_ ?_
   | refine uA.bind ?_ (fun _ => ?_)
def spec_l4Session.T7 : Bool × List (List Nat × List Nat) := (true, [([], []), ([], []), ([1], [1]), ([0, 2], [0, 2]), ([3], [3]), ([], []), ([], []), ([6], [6]), ([5, 7], [5, 7]), ([8], [8]), ([9], [9]), ([4, 10], [4, 10]), ([0, 1, 2, 3, 4, 5, 6, 7, 8, 9, 10, 11], []), ([12, 11, 0, 1, 2, 3, 4, 5, 6, 7, 8, 9, 10, 11], [11, 12])])
def spec_l4Session.B7 : List Nat := [0, 0, 2, 7, 15, 0, 0, 64, 224, 480, 992, 2047, 4095, 8191]
theorem spec_l4Session.tab7 : rtab .any (opsOf Tryd.f74 7) = spec_l4Session.T7 := by kernel_rfl
theorem spec_l4Session.bits7 : waitsOk spec_l4Session.T7.2 spec_l4Session.B7 = true := by kernel_rfl
set_option maxHeartbeats 8000000 in
set_option maxRecDepth 100000 in
theorem spec_l4Session.calls (k : Nat) (a0 : ByteArray) (r1 : Int) (r2 : Int) (r3 : Bool) (r4 : Int) (w : World) (h : spec_l4Session.f k a0 = some (r1, r2, r3, r4)) :
  Calls Tryd.prog 74 #[.string a0] w fun e w' => e = .returned (.agg #[.int .i64 r1, .int .i64 r2, .bool r3, .int .i64 r4]) ∧ Below w.heap.size w w' := by
 have hu97 := Tryd.underlying97
 have hu95 := Tryd.underlying95
 have HB := Aside0.mk (Below.refl w.heap.size w)
 have H : (if (a0.size : Int) < 5 then (some ((-1), 0, false, 0)) else (if 1 < (a0.size : Int) then (if (bt a0 1) = 46 then (if 0 < (a0.size : Int) then (if 2 ≤ (wrap64 ((a0.size : Int) - 2)) then (if (wrap64 ((a0.size : Int) - 2)) ≤ (a0.size : Int) then ((spec_l3Num.f k (a0.extract 2 ((wrap64 ((a0.size : Int) - 2)) : Int).toNat)).bind fun t121 => (if 0 ≤ (wrap64 ((a0.size : Int) - 2)) then (if (wrap64 ((a0.size : Int) - 2)) < (a0.size : Int) then (if 0 ≤ (wrap64 ((a0.size : Int) - 1)) then (if (wrap64 ((a0.size : Int) - 1)) < (a0.size : Int) then (some (wrap64 ((wrap64 (bt a0 0)) - 48), t121, ((bt a0 (wrap64 ((a0.size : Int) - 2))) == 43), wrap64 ((wrap64 (bt a0 (wrap64 ((a0.size : Int) - 1)))) - 48))) else (none)) else (none)) else (none)) else (none))) else (none)) else (none)) else (none)) else (some ((-1), 0, false, 0))) else (none))) = some (r1, r2, r3, r4) := h
 clear h
 by_cases c2 : (a0.size : Int) < 5
 ·rw [if_pos c2] at H
  have c2b0 := decide_eq_true c2
  have c2b1 : decide (a0.size < 5) = true := decide_eq_true (by omega)
  clear c2
  simp only [Option.some.injEq, Prod.mk.injEq] at H
  obtain ⟨rfl, rfl, rfl, rfl⟩ := H
  go_enter Tryd.func74, Tryd.ntmps74
  go_wp2_with (first | ((with_reducible refine uU (N := 2) rfl ?_); refine bxe 2 #[.int .i64 0, .int .i64 0, .bool false, .int .i64 0] 97 ?_; intro gb119 hg w3 hbox hb; have BK119 := Aside0.mk (hbox); have GW119 := tGe HB hg; have GE119 := tGe HB hg; replace HB := uP HB hb; clear hb hbox hg) | ((with_reducible refine uU (N := 3) rfl ?_); refine bxe 3 #[.int .i64 0, .int .i64 0, .bool false, .int .i64 0] 97 ?_; intro gb120 hg w4 hbox hb; have BK120 := Aside0.mk (hbox); have GW120 := tGe HB hg; have GE120 := tGe HB hg; have NB119_120 := tNl BK119 hg; have NB120_119 := tNg BK119 hg; replace BK119 := tBlk BK119 hb; replace HB := uP HB hb; clear hb hbox hg; have hnb5 := NB120_119.out; have hnc5 := NB119_120.out; obtain ⟨hcz6_0, hcz6_1, hcz6_2, hcz6_3, hfz6_0, hfz6_1, hfz6_2, hfz6_3⟩ := cz4 BK120; obtain ⟨hcz7_0, hcz7_1, hcz7_2, hcz7_3, hfz7_0, hfz7_1, hfz7_2, hfz7_3⟩ := cz4 BK119))
  refine bodyPost_ret (results_cell_row rfl _ _ gb119 97 #[.int .i64 (-1), .int .i64 0, .bool false, .int .i64 0] (0, 0) _ rfl (by (with_reducible repeat (first | refine uC ?_ _ | refine uD ?_ | refine uB ?_ _)); refine uO (cs := #[.int .i64 (-1), .int .i64 0, .bool false, .int .i64 0]) ?_ 3 _ rfl; (with_reducible repeat (first | refine uC ?_ _ | refine uD ?_ | refine uB ?_ _)); refine uO (cs := #[.int .i64 (-1), .int .i64 0, .bool false, .int .i64 0]) ?_ 2 _ rfl; (with_reducible repeat (first | refine uC ?_ _ | refine uD ?_ | refine uB ?_ _)); refine uO (cs := #[.int .i64 (-1), .int .i64 0, .bool false, .int .i64 0]) ?_ 1 _ rfl; (with_reducible repeat (first | refine uC ?_ _ | refine uD ?_ | refine uB ?_ _)); refine uO (cs := #[.int .i64 0, .int .i64 0, .bool false, .int .i64 0]) ?_ 0 _ rfl; (with_reducible repeat (first | refine uC ?_ _ | refine uD ?_ | refine uB ?_ _)); refine uT ?_ NB119_120.out _; (with_reducible repeat (first | refine uC ?_ _ | refine uD ?_ | refine uB ?_ _)); refine uT ?_ NB119_120.out _; (with_reducible repeat (first | refine uC ?_ _ | refine uD ?_ | refine uB ?_ _)); refine uT ?_ NB119_120.out _; (with_reducible repeat (first | refine uC ?_ _ | refine uD ?_ | refine uB ?_ _)); refine uT ?_ NB119_120.out _; (with_reducible repeat (first | refine uC ?_ _ | refine uD ?_ | refine uB ?_ _)); exact BK119.out) Tryd.underlying97 rfl (by kernel_rfl)) rfl ?_
  exact ⟨cq4, cq0⟩
 rw [if_neg c2] at H
 have c2b0 := decide_eq_false c2
 have c2b1 : decide (a0.size < 5) = false := decide_eq_false (by omega)
 clear c2
 by_cases c8 : 1 < (a0.size : Int)
 rotate_left
 ·rw [if_neg c8] at H
  exact absurd H (by simp)
 rw [if_pos c8] at H
 have c8b0 := decide_eq_true c8
 have c8b1 : decide (1 < a0.size) = true := decide_eq_true (by omega)
 clear c8
 by_cases c10 : (bt a0 1) = 46
 rotate_left
 ·rw [if_neg c10] at H
  have c10b0 := beq_eq_false_iff_ne.mpr c10
  have c10b1 := bne_iff_ne.mpr c10
  simp only [Option.some.injEq, Prod.mk.injEq] at H
  obtain ⟨rfl, rfl, rfl, rfl⟩ := H
  go_enter Tryd.func74, Tryd.ntmps74
  go_wp2_with (first | ((with_reducible refine uU (N := 2) rfl ?_); refine bxe 2 #[.int .i64 0, .int .i64 0, .bool false, .int .i64 0] 97 ?_; intro gb119 hg w36 hbox hb; have BK119 := Aside0.mk (hbox); have GW119 := tGe HB hg; have GE119 := tGe HB hg; replace HB := uP HB hb; clear hb hbox hg) | ((with_reducible refine uU (N := 3) rfl ?_); refine bxe 3 #[.int .i64 0, .int .i64 0, .bool false, .int .i64 0] 97 ?_; intro gb120 hg w37 hbox hb; have BK120 := Aside0.mk (hbox); have GW120 := tGe HB hg; have GE120 := tGe HB hg; have NB119_120 := tNl BK119 hg; have NB120_119 := tNg BK119 hg; replace BK119 := tBlk BK119 hb; replace HB := uP HB hb; clear hb hbox hg; have hnb38 := NB120_119.out; have hnc38 := NB119_120.out; obtain ⟨hcz39_0, hcz39_1, hcz39_2, hcz39_3, hfz39_0, hfz39_1, hfz39_2, hfz39_3⟩ := cz4 BK120; have p9 : 0 ≤ (1 : Int) := (by omega); have q9 : 1 < a0.size := (by have : (1 : Int) < (a0.size : Int) := of_decide_eq_true uJ; omega); have hx9 : ∀ h : 1 < a0.size, ((a0[1]'h).toNat : Int) = bt a0 1 := bt_at a0 1; clear p9; have qi9 : (1 < (a0.size : Int)) = True := eq_true (of_decide_eq_true uJ); replace q9 := eq_true q9; obtain ⟨hcz40_0, hcz40_1, hcz40_2, hcz40_3, hfz40_0, hfz40_1, hfz40_2, hfz40_3⟩ := cz4 BK119))
  refine bodyPost_ret (results_cell_row rfl _ _ gb119 97 #[.int .i64 (-1), .int .i64 0, .bool false, .int .i64 0] (0, 0) _ rfl (by (with_reducible repeat (first | refine uC ?_ _ | refine uD ?_ | refine uB ?_ _)); refine uO (cs := #[.int .i64 (-1), .int .i64 0, .bool false, .int .i64 0]) ?_ 3 _ rfl; (with_reducible repeat (first | refine uC ?_ _ | refine uD ?_ | refine uB ?_ _)); refine uO (cs := #[.int .i64 (-1), .int .i64 0, .bool false, .int .i64 0]) ?_ 2 _ rfl; (with_reducible repeat (first | refine uC ?_ _ | refine uD ?_ | refine uB ?_ _)); refine uO (cs := #[.int .i64 (-1), .int .i64 0, .bool false, .int .i64 0]) ?_ 1 _ rfl; (with_reducible repeat (first | refine uC ?_ _ | refine uD ?_ | refine uB ?_ _)); refine uO (cs := #[.int .i64 0, .int .i64 0, .bool false, .int .i64 0]) ?_ 0 _ rfl; (with_reducible repeat (first | refine uC ?_ _ | refine uD ?_ | refine uB ?_ _)); refine uT ?_ NB119_120.out _; (with_reducible repeat (first | refine uC ?_ _ | refine uD ?_ | refine uB ?_ _)); refine uT ?_ NB119_120.out _; (with_reducible repeat (first | refine uC ?_ _ | refine uD ?_ | refine uB ?_ _)); refine uT ?_ NB119_120.out _; (with_reducible repeat (first | refine uC ?_ _ | refine uD ?_ | refine uB ?_ _)); refine uT ?_ NB119_120.out _; (with_reducible repeat (first | refine uC ?_ _ | refine uD ?_ | refine uB ?_ _)); exact BK119.out) Tryd.underlying97 rfl (by kernel_rfl)) rfl ?_
  exact ⟨cq4, cq0⟩
 rw [if_pos c10] at H
 have c10b0 := beq_iff_eq.mpr c10
 have c10b1 := bne_eq_false_iff_eq.mpr c10
 clear c10
 by_cases c11 : 0 < (a0.size : Int)
 rotate_left
 ·rw [if_neg c11] at H
  exact absurd H (by simp)
 rw [if_pos c11] at H
 have c11b0 := decide_eq_true c11
 have c11b1 : decide (0 < a0.size) = true := decide_eq_true (by omega)
 clear c11
 by_cases c13 : 2 ≤ (wrap64 ((a0.size : Int) - 2))
 rotate_left
 ·rw [if_neg c13] at H
  exact absurd H (by simp)
 rw [if_pos c13] at H
 have c13b0 := eq_true c13
 have c13b1 := decide_eq_true c13
 clear c13
 by_cases c14 : (wrap64 ((a0.size : Int) - 2)) ≤ (a0.size : Int)
 rotate_left
 ·rw [if_neg c14] at H
  exact absurd H (by simp)
 rw [if_pos c14] at H
 have c14b0 := eq_true c14
 have c14b1 := decide_eq_true c14
 clear c14
 replace H := Option.bind_eq_some_iff.mp H
 obtain ⟨t121, A150, H⟩ := H
 try dsimp only at H
 have A15 := Aside0.mk A150
 clear A150
 obtain ⟨ji16, hji16⟩ : ∃ j_ : Int, (wrap64 ((a0.size : Int) - 2)) = j_ := ⟨_, rfl⟩
 replace H : (if 0 ≤ (ji16) then (if (ji16) < (a0.size : Int) then (if 0 ≤ (wrap64 ((a0.size : Int) - 1)) then (if (wrap64 ((a0.size : Int) - 1)) < (a0.size : Int) then (some (wrap64 ((wrap64 (bt a0 0)) - 48), t121, ((bt a0 (ji16)) == 43), wrap64 ((wrap64 (bt a0 (wrap64 ((a0.size : Int) - 1)))) - 48))) else (none)) else (none)) else (none)) else (none)) = some (r1, r2, r3, r4) := by first | (rw [hji16] at H; exact H) | (simp only [hji16] at H ⊢; exact H) | rfl
 (try rw [hji16] at c13b0)
 (try rw [hji16] at c13b1)
 (try rw [hji16] at c14b0)
 (try rw [hji16] at c14b1)
 (try rw [hji16] at A15)
 have hji16w : (IntKind.i64.wrap ((a0.size : Int) - 2)) = ji16 := (uQ _).trans hji16
 obtain ⟨c17b0, H⟩ := ifD H
 obtain ⟨c18b0, H⟩ := ifD H
 obtain ⟨ji20, hji20⟩ : ∃ j_ : Int, (wrap64 ((a0.size : Int) - 1)) = j_ := ⟨_, rfl⟩
 replace H : (if 0 ≤ (ji20) then (if (ji20) < (a0.size : Int) then (some (wrap64 ((wrap64 (bt a0 0)) - 48), t121, ((bt a0 (ji16)) == 43), wrap64 ((wrap64 (bt a0 (ji20))) - 48))) else (none)) else (none)) = some (r1, r2, r3, r4) := by first | (rw [hji20] at H; exact H) | (simp only [hji20] at H ⊢; exact H) | rfl
 (try rw [hji20] at A15)
 have hji20w : (IntKind.i64.wrap ((a0.size : Int) - 1)) = ji20 := (uQ _).trans hji20
 obtain ⟨c21b0, H⟩ := ifD H
 obtain ⟨c22b0, H⟩ := ifD H
 simp only [Option.some.injEq, Prod.mk.injEq] at H
 obtain ⟨rfl, rfl, rfl, rfl⟩ := H
 go_enter Tryd.func74, Tryd.ntmps74
 try go_wp2_with (first | ((with_reducible refine uU (N := 2) rfl ?_); refine bxe 2 #[.int .i64 0, .int .i64 0, .bool false, .int .i64 0] 97 ?_; intro gb119 hg w24 hbox hb; have BK119 := Aside0.mk (hbox); have GW119 := tGe HB hg; have GE119 := tGe HB hg; replace HB := uP HB hb; clear hb hbox hg) | ((with_reducible refine uU (N := 3) rfl ?_); refine bxe 3 #[.int .i64 0, .int .i64 0, .bool false, .int .i64 0] 97 ?_; intro gb120 hg w25 hbox hb; have BK120 := Aside0.mk (hbox); have GW120 := tGe HB hg; have GE120 := tGe HB hg; have NB119_120 := tNl BK119 hg; have NB120_119 := tNg BK119 hg; replace BK119 := tBlk BK119 hb; replace HB := uP HB hb; clear hb hbox hg; have hnb26 := NB120_119.out; have hnc26 := NB119_120.out; obtain ⟨hcz27_0, hcz27_1, hcz27_2, hcz27_3, hfz27_0, hfz27_1, hfz27_2, hfz27_3⟩ := cz4 BK120; have p9 : 0 ≤ (1 : Int) := (by omega); have q9 : 1 < a0.size := (by have : (1 : Int) < (a0.size : Int) := of_decide_eq_true uJ; omega); have hx9 : ∀ h : 1 < a0.size, ((a0[1]'h).toNat : Int) = bt a0 1 := bt_at a0 1; clear p9; have qi9 : (1 < (a0.size : Int)) = True := eq_true (of_decide_eq_true uJ); replace q9 := eq_true q9; have p12 : 0 ≤ (0 : Int) := (by omega); have q12 : 0 < a0.size := (by have : (0 : Int) < (a0.size : Int) := of_decide_eq_true uJ; omega); have hx12 : ∀ h : 0 < a0.size, ((a0[0]'h).toNat : Int) = bt a0 0 := bt_at a0 0; clear p12; have qi12 : (0 < (a0.size : Int)) = True := eq_true (of_decide_eq_true uJ); replace q12 := eq_true q12) | ((with_reducible refine uI (f := 68) rfl ?_); refine goesL_ (some 25) rfl rfl Tryd.func68 (by kernel_rfl) rfl #[.string (a0.extract 2 ((ji16) : Int).toNat)] rfl (by (try simp only [List.map_toArray, List.map_cons, List.map_nil]); first | done | (simp only [hji16]; rfl) | rfl | (simp only [List.length_drop, List.length_take]; rfl)) ?_; (with_reducible refine (spec_l3Num.calls k (a0.extract 2 ((ji16) : Int).toNat) t121 _ A15.out).mono ?_); rintro e w28 ⟨rfl, hb⟩; refine ⟨_, rfl, ?_⟩; replace BK119 := tBlkF BK119 hb; replace BK120 := tBlkP BK120 #[.int .i64 (wrap64 ((wrap64 (bt a0 0)) - 48)), .int .i64 0, .bool false, .int .i64 0] hb; replace HB := uP HB hb; (try clear hb); obtain ⟨hcz29_0, hcz29_1, hcz29_2, hcz29_3, hfz29_0, hfz29_1, hfz29_2, hfz29_3⟩ := cz4 BK120))
 have n0_ : Aside0 ((w28.setCell ⟨gb120, 1, none⟩ (.int .i64 t121)).heap[gb119]? = some (.cells #[.int .i64 0, .int .i64 0, .bool false, .int .i64 0] 97 (0, 0))) := ⟨by (with_reducible repeat (first | refine uC ?_ _ | refine uD ?_ | refine uB ?_ _)); refine uT ?_ NB119_120.out _; (with_reducible repeat (first | refine uC ?_ _ | refine uD ?_ | refine uB ?_ _)); exact BK119.out⟩
 have n1_ : Aside0 ((w28.setCell ⟨gb120, 1, none⟩ (.int .i64 t121)).heap[gb120]? = some (.cells #[.int .i64 (wrap64 ((wrap64 (bt a0 0)) - 48)), .int .i64 t121, .bool false, .int .i64 0] 97 (0, 0))) := ⟨by (with_reducible repeat (first | refine uC ?_ _ | refine uD ?_ | refine uB ?_ _)); refine uO (cs := #[.int .i64 (wrap64 ((wrap64 (bt a0 0)) - 48)), .int .i64 0, .bool false, .int .i64 0]) ?_ 1 _ rfl; (with_reducible repeat (first | refine uC ?_ _ | refine uD ?_ | refine uB ?_ _)); exact BK120.out⟩
 have n2_ : Aside0 (Below w.heap.size w (w28.setCell ⟨gb120, 1, none⟩ (.int .i64 t121))) := ⟨cq0⟩
 generalize (w28.setCell ⟨gb120, 1, none⟩ (.int .i64 t121)) = w30 at n0_ n1_ n2_ ⊢
 have BK119 := n0_
 have BK120 := n1_
 have HB := n2_
 clear n0_ n1_ n2_
 replace BK119 := Aside0.mk (uD BK119.out)
 replace BK120 := Aside0.mk (uD BK120.out)
 replace HB := Aside0.mk (uW HB.out)
 have p19 : 0 ≤ ((ji16) : Int) := of_decide_eq_true uJ
 have q19 : (ji16) < (a0.size : Int) := of_decide_eq_true uJ
 have hx19 := bt_at a0 (ji16)
 replace p19 := eq_true p19
 replace q19 := eq_true q19
 have p23 : 0 ≤ ((ji20) : Int) := of_decide_eq_true uJ
 have q23 : (ji20) < (a0.size : Int) := of_decide_eq_true uJ
 have hx23 := bt_at a0 (ji20)
 replace p23 := eq_true p23
 replace q23 := eq_true q23
 refine start_ (n := 14) (S := fun w' => True) (ds := []) #[false, false, false, false, false, false, false, false, false, false, false, false, false, false] (by kernel_rfl) rfl rfl trivial (fun hHeld => ?_); refine with_tabW spec_l4Session.tab7 spec_l4Session.bits7 (fun HT_ HW_ => ?_)
 generalize w30.drew = w31 at BK119 BK120 HB hHeld ⊢
 refine uN 0 (some 27) #[true, false, false, false, false, false, false, false, false, false, false, false, false, false] ?_
 refine uN 1 (some 28) #[true, true, false, false, false, false, false, false, false, false, false, false, false, false] ?_
 refine uN 2 (some 29) #[true, true, true, false, false, false, false, false, false, false, false, false, false, false] ?_
 refine uN 5 (some 32) #[true, true, true, false, false, true, false, false, false, false, false, false, false, false] ?_
 refine uN 6 (some 33) #[true, true, true, false, false, true, true, false, false, false, false, false, false, false] ?_
 refine uN 7 (some 34) #[true, true, true, false, false, true, true, true, false, false, false, false, false, false] ?_
 refine take_ (i := 3) (N := some 30) (v := ?_) (a' := ?_) #[true, true, true, true, false, true, true, true, false, false, false, false, false, false] rfl rfl (take_ofW HT_.out HW_.out (by kernel_rfl)) (fun _ _ _ h => h) (Or.inl ⟨by rfl, ?_⟩) hHeld ?_ ?_
 rotate_left
 ·intro w' _
  go_simp
  with_reducible rfl
 rotate_left
 ·simp only [Act.put, uZ, vA, vB, uQ, i32_w]
  rfl
 refine uN 4 (some 31) #[true, true, true, true, true, true, true, true, false, false, false, false, false, false] ?_
 refine take_ (i := 8) (N := some 35) (v := ?_) (a' := ?_) #[true, true, true, true, true, true, true, true, true, false, false, false, false, false] rfl rfl (take_ofW HT_.out HW_.out (by kernel_rfl)) (fun _ _ _ h => h) (Or.inl ⟨by rfl, ?_⟩) hHeld ?_ ?_
 rotate_left
 ·intro w' _
  go_simp
  with_reducible rfl
 rotate_left
 ·simp only [Act.put, uZ, vA, vB, uQ, i32_w]
  rfl
 refine uN 9 (some 36) #[true, true, true, true, true, true, true, true, true, true, false, false, false, false] ?_
 refine uN 10 (some 37) #[true, true, true, true, true, true, true, true, true, true, true, false, false, false] ?_
 refine uN 11 (some 38) #[true, true, true, true, true, true, true, true, true, true, true, true, false, false] ?_
 refine uN 12 (some 39) #[true, true, true, true, true, true, true, true, true, true, true, true, true, false] ?_
 refine one_ (i := 13) (N := none) #[true, true, true, true, true, true, true, true, true, true, true, true, true, true] rfl rfl (one_of HT_.out (by kernel_rfl)) (by decide) (fun K hK => ?_)
 have hs32 : w31.cell? ⟨gb120, 2, none⟩ = some (.bool false) := (uE BK120.out 2).trans rfl
 have hfs32 := uX BK120.out 2
 have hns32_0 := NB119_120.out
 have hms32_0 := NB120_119.out
 have hs33 : w31.cell? ⟨gb120, 3, none⟩ = some (.int .i64 0) := (uE BK120.out 3).trans rfl
 have hfs33 := uX BK120.out 3
 have hns33_0 := NB119_120.out
 have hms33_0 := NB120_119.out
 refine skip_ (w1 := ?_) (by rfl) rfl ?_ ?_
 rotate_left
 ·go_simp
  rfl
 refine hK.out _ _ trivial (fun hHeld => ?_)
 clear hK K
 refine done_ (done_of HT_.out (by kernel_rfl)) ?_
 obtain ⟨hcz34_0, hcz34_1, hcz34_2, hcz34_3, hfz34_0, hfz34_1, hfz34_2, hfz34_3⟩ := cz4 BK120
 obtain ⟨hcz35_0, hcz35_1, hcz35_2, hcz35_3, hfz35_0, hfz35_1, hfz35_2, hfz35_3⟩ := cz4 BK119
 try go_wp2
 refine bodyPost_ret (results_cell_row rfl _ _ gb119 97 #[.int .i64 (wrap64 ((wrap64 (bt a0 0)) - 48)), .int .i64 t121, .bool ((bt a0 (ji16)) == 43), .int .i64 (wrap64 ((wrap64 (bt a0 (ji20))) - 48))] (0, 0) _ rfl (by (with_reducible repeat (first | refine uC ?_ _ | refine uD ?_ | refine uB ?_ _)); refine uO (cs := #[.int .i64 (wrap64 ((wrap64 (bt a0 0)) - 48)), .int .i64 t121, .bool ((bt a0 (ji16)) == 43), .int .i64 0]) ?_ 3 _ rfl; (with_reducible repeat (first | refine uC ?_ _ | refine uD ?_ | refine uB ?_ _)); refine uO (cs := #[.int .i64 (wrap64 ((wrap64 (bt a0 0)) - 48)), .int .i64 t121, .bool false, .int .i64 0]) ?_ 2 _ rfl; (with_reducible repeat (first | refine uC ?_ _ | refine uD ?_ | refine uB ?_ _)); refine uO (cs := #[.int .i64 (wrap64 ((wrap64 (bt a0 0)) - 48)), .int .i64 0, .bool false, .int .i64 0]) ?_ 1 _ rfl; (with_reducible repeat (first | refine uC ?_ _ | refine uD ?_ | refine uB ?_ _)); refine uO (cs := #[.int .i64 0, .int .i64 0, .bool false, .int .i64 0]) ?_ 0 _ rfl; (with_reducible repeat (first | refine uC ?_ _ | refine uD ?_ | refine uB ?_ _)); refine uT ?_ NB119_120.out _; (with_reducible repeat (first | refine uC ?_ _ | refine uD ?_ | refine uB ?_ _)); refine uT ?_ NB119_120.out _; (with_reducible repeat (first | refine uC ?_ _ | refine uD ?_ | refine uB ?_ _)); exact BK119.out) Tryd.underlying97 rfl (by kernel_rfl)) rfl ?_
 exact ⟨by first | rfl | (simp [errW_none, errW_some] <;> rfl) | (simp only [← hji16, ← hji20]; first | rfl | (simp [errW_none, errW_some] <;> rfl)) | (simp [*, errW_none, errW_some] <;> rfl), cq0⟩

/-! ### spec_l1In: function 48 -/
def spec_l1In.f (a0 : Int) (a1 : Int) (a2 : Int) : Option (Bool) := if a0 ≥ a1 then (some (decide (a0 ≤ a2))) else (some false)
set_option maxHeartbeats 8000000 in
set_option maxRecDepth 100000 in
theorem spec_l1In.calls (a0 : Int) (a1 : Int) (a2 : Int) (r : Bool) (w : World) (h : spec_l1In.f a0 a1 a2 = some r) :
  Calls Tryd.prog 48 #[.int .i64 a0, .int .i64 a1, .int .i64 a2] w fun e w' => e = .returned (.bool r) ∧ Drawn0 w w' := by
 have H : (if a0 ≥ a1 then (some (decide (a0 ≤ a2))) else (some false)) = some r := h
 clear h
 by_cases c4 : a0 ≥ a1
 ·rw [if_pos c4] at H
  have c4b0 := decide_eq_true c4
  clear c4
  obtain rfl := Option.some.inj H
  go_enter Tryd.func48, Tryd.ntmps48
  go_wp2
  go_ret
  exact ⟨cq3, cq18⟩
 rw [if_neg c4] at H
 have c4b0 := decide_eq_false c4
 clear c4
 obtain rfl := Option.some.inj H
 go_enter Tryd.func48, Tryd.ntmps48
 go_wp2
 go_ret
 exact ⟨cq3, cq18⟩

end Go.Proofs.YtcikahnmiiichaaDoor.P
