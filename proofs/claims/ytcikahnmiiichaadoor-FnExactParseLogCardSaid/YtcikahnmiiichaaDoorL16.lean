/- Go functions as Lean functions, and the proof that the code comes to them: written by a program of this session out of the translation. -/
import Derived.Test.YtcikahnmiiichaaDoorL0
import Derived.Test.YtcikahnmiiichaaDoorL7
import Derived.Test.YtcikahnmiiichaaDoorL14
import Derived.Test.YtcikahnmiiichaaDoorL15
namespace Go.Proofs.YtcikahnmiiichaaDoor.L
open List renaming setIfInBounds_toArray → vD, set_cons_zero → vE, set_cons_succ → vF
open Go.World renaming block_lt_of_cell? → vJ
open Go.Proofs.YtcikahnmiiichaaDoor.Given
open Go.RowKit Go.Proofs.YtcikahnmiiichaaDoorW.PrintWords Go.Proofs.YtcikahnmiiichaaDoorW.PrintLast Go.Proofs.YtcikahnmiiichaaDoorW.PrintMore
attribute [local go_sem] max2_int min2_int max_two min_two max_three min_three max_four min_four   -- for this text's walks alone
set_option linter.unusedVariables false
set_option linter.unusedSimpArgs false

/-! ### laws_heldEntryS: function 36 -/
def laws_heldEntryS.l0 : Nat → List (S66) → Int → Int → Option (Int)
  | 0, _, _, _ => none
  | k + 1, x0, x1, x5 => if x5 < (x0.length : Int) then (if 0 ≤ x5 then (if ((rd_T66 x0 x5).f0) = x1 then (if ((rd_T66 x0 x5).f1.f0) = (wrap64 (x1 + 1)) then (if ((rd_T66 x0 x5).f1.f1) = (wrap64 ((wrap64 (x1 + 1)) + 1)) then (if ((rd_T66 x0 x5).f1.f2) = (wrap64 ((wrap64 ((wrap64 (x1 + 1)) + 1)) + 1)) then (if ((rd_T66 x0 x5).f1.f3) = (wrap64 ((wrap64 ((wrap64 ((wrap64 (x1 + 1)) + 1)) + 1)) + 1)) then (if ((rd_T66 x0 x5).f1.f4) = (wrap64 ((wrap64 ((wrap64 ((wrap64 ((wrap64 (x1 + 1)) + 1)) + 1)) + 1)) + 1)) then (if ((rd_T66 x0 x5).f1.f5) = (wrap64 ((wrap64 ((wrap64 ((wrap64 ((wrap64 ((wrap64 (x1 + 1)) + 1)) + 1)) + 1)) + 1)) + 1)) then (laws_heldEntryS.l0 k x0 (wrap64 ((wrap64 ((wrap64 ((wrap64 ((wrap64 ((wrap64 ((wrap64 (x1 + 1)) + 1)) + 1)) + 1)) + 1)) + 1)) + 1)) (wrap64 (x5 + 1))) else (some (-1))) else (some (-1))) else (some (-1))) else (some (-1))) else (some (-1))) else (some (-1))) else (some (-1))) else (none)) else (some x1)
def laws_heldEntryS.f (k : Nat) (l0 : List (S66)) (a1 : Int) : Option (Int) := laws_heldEntryS.l0 k l0 a1 0
theorem laws_heldEntryS.mono_l : ∀ k, (∀ y0 y1 y2, uE (laws_heldEntryS.l0 k y0 y1 y2) (laws_heldEntryS.l0 (k + 1) y0 y1 y2))
  | 0 => fun _ _ _ r h => by simp [laws_heldEntryS.l0] at h
  | k + 1 => by
    have ih0 := laws_heldEntryS.mono_l k
    intro y0 y1 y2
    unfold laws_heldEntryS.l0
    repeat' first
    | (with_reducible exact ih0 _ _ _)
    | (with_reducible exact uE.refl _)
    | (with_reducible exact uE.none _)
    | (with_reducible refine uE.ite ?_ ?_)
    | (with_reducible refine uE.bind ?_ (fun _ => ?_))
    | exact ih0 _ _ _
    | exact uE.none _
    | refine uE.ite ?_ ?_
    | refine uE.bind ?_ (fun _ => ?_)
theorem laws_heldEntryS.mono : ∀ a0 a1 k, uE (laws_heldEntryS.f k a0 a1) (laws_heldEntryS.f (k + 1) a0 a1) := by
  intro a0 a1 k
  have ih0 := laws_heldEntryS.mono_l k
  unfold laws_heldEntryS.f
  repeat' first
      | (with_reducible exact ih0 _ _ _)
      | (with_reducible exact uE.refl _)
      | (with_reducible exact uE.none _)
      | (with_reducible refine uE.ite ?_ ?_)
      | (with_reducible refine uE.bind ?_ (fun _ => ?_))
      | exact ih0 _ _ _
      | exact uE.none _
      | refine uE.ite ?_ ?_
      | refine uE.bind ?_ (fun _ => ?_)
set_option maxHeartbeats 8000000 in
set_option maxRecDepth 100000 in
theorem laws_heldEntryS.calls (k : Nat) (A0 : Option Addr) (c0 : Nat) (l0 : List (S66)) (a1 : Int) (r : Int) (w : World) (hr0 : Kd.C k66 w A0 l0.length l0) (hc0 : l0.length ≤ c0) (h : laws_heldEntryS.f k l0 a1 = some r) :
    Calls Tryd.prog 36 #[.slice A0 l0.length c0, .int .i64 a1] w fun e w' => e = .returned (.int .i64 r) ∧ Drawn0 w w' := by
  have HR0 := Aside0.mk hr0
  have HC0 := Aside0.mk hc0
  clear hr0 hc0
  have H : (laws_heldEntryS.l0 k l0 a1 0) = some r := h
  clear h
  have H' := Aside0.mk H
  clear H
  go_enter Tryd.func36, Tryd.ntmps36
  go_wp2
  go_loopg [1, 5] k (fun kq v1 v5 w' => ∃ (x1_1 : Int) (x5_1 : Int), v1 = .int .i64 x1_1 ∧ v5 = .int .i64 x5_1 ∧ Aside0 (laws_heldEntryS.l0 kq l0 x1_1 x5_1 = some r) ∧ Aside0 (kq ≤ k) ∧ Drawn0 w w')
  case atStart => exact ⟨(a1), (0), cq6, cq6, H', ⟨Nat.le_refl _⟩, cq20⟩
  case round =>
    clear H'
    obtain ⟨x1_1, x5_1, rfl, rfl, HA, HK1, ⟨m1, rfl⟩⟩ := hrel
    cases gk with
    | zero => exact absurd HA.out (by simp [laws_heldEntryS.l0])
    | succ k1 =>
      have H := HA.out
      clear HA
      simp only [laws_heldEntryS.l0] at H
      by_cases c3 : x5_1 < (l0.length : Int)
      rotate_left
      · rw [if_neg c3] at H
        have c3b0 := decide_eq_false c3
        clear c3
        obtain rfl := Option.some.inj H
        go_wp2
        go_ret
        exact ⟨cq6, cq20⟩
      rw [if_pos c3] at H
      have c3b0 := decide_eq_true c3
      clear c3
      obtain ⟨c4b0, H⟩ := ifD H
      by_cases c5 : ((rd_T66 l0 x5_1).f0) = x1_1
      rotate_left
      · rw [if_neg c5] at H
        have c5b0 := beq_eq_false_iff_ne.mpr c5
        have c5b1 := bne_iff_ne.mpr c5
        obtain rfl := Option.some.inj H
        have p313 : 0 ≤ (x5_1 : Int) := of_decide_eq_true uL
        have q313 : x5_1 < (l0.length : Int) := of_decide_eq_true uL
        obtain ⟨ad313, e313, hx313_0, hx313_1, hx313_2, hx313_3, hx313_4, hx313_5, hx313_6⟩ := at_T66 HR0.out x5_1 p313 q313
        cases e313
        replace p313 := eq_true p313
        replace q313 := eq_true q313
        go_wp2
        go_ret
        exact ⟨cq6, cq20⟩
      rw [if_pos c5] at H
      have c5b0 := beq_iff_eq.mpr c5
      have c5b1 := bne_eq_false_iff_eq.mpr c5
      clear c5
      by_cases c6 : ((rd_T66 l0 x5_1).f1.f0) = (wrap64 (x1_1 + 1))
      rotate_left
      · rw [if_neg c6] at H
        have c6b0 := beq_eq_false_iff_ne.mpr c6
        have c6b1 := bne_iff_ne.mpr c6
        obtain rfl := Option.some.inj H
        have p313 : 0 ≤ (x5_1 : Int) := of_decide_eq_true uL
        have q313 : x5_1 < (l0.length : Int) := of_decide_eq_true uL
        obtain ⟨ad313, e313, hx313_0, hx313_1, hx313_2, hx313_3, hx313_4, hx313_5, hx313_6⟩ := at_T66 HR0.out x5_1 p313 q313
        cases e313
        replace p313 := eq_true p313
        replace q313 := eq_true q313
        have p314 : 0 ≤ (x5_1 : Int) := of_decide_eq_true uL
        have q314 : x5_1 < (l0.length : Int) := of_decide_eq_true uL
        obtain ⟨ad314, e314, hx314_0, hx314_1, hx314_2, hx314_3, hx314_4, hx314_5, hx314_6⟩ := at_T66 HR0.out x5_1 p314 q314
        obtain rfl : ad313 = ad314 := (by injection e314)
        replace p314 := eq_true p314
        replace q314 := eq_true q314
        go_wp2
        go_ret
        exact ⟨cq6, cq20⟩
      rw [if_pos c6] at H
      have c6b0 := beq_iff_eq.mpr c6
      have c6b1 := bne_eq_false_iff_eq.mpr c6
      clear c6
      by_cases c7 : ((rd_T66 l0 x5_1).f1.f1) = (wrap64 ((wrap64 (x1_1 + 1)) + 1))
      rotate_left
      · rw [if_neg c7] at H
        have c7b0 := beq_eq_false_iff_ne.mpr c7
        have c7b1 := bne_iff_ne.mpr c7
        obtain rfl := Option.some.inj H
        have p313 : 0 ≤ (x5_1 : Int) := of_decide_eq_true uL
        have q313 : x5_1 < (l0.length : Int) := of_decide_eq_true uL
        obtain ⟨ad313, e313, hx313_0, hx313_1, hx313_2, hx313_3, hx313_4, hx313_5, hx313_6⟩ := at_T66 HR0.out x5_1 p313 q313
        cases e313
        replace p313 := eq_true p313
        replace q313 := eq_true q313
        have p314 : 0 ≤ (x5_1 : Int) := of_decide_eq_true uL
        have q314 : x5_1 < (l0.length : Int) := of_decide_eq_true uL
        obtain ⟨ad314, e314, hx314_0, hx314_1, hx314_2, hx314_3, hx314_4, hx314_5, hx314_6⟩ := at_T66 HR0.out x5_1 p314 q314
        obtain rfl : ad313 = ad314 := (by injection e314)
        replace p314 := eq_true p314
        replace q314 := eq_true q314
        have p315 : 0 ≤ (x5_1 : Int) := of_decide_eq_true uL
        have q315 : x5_1 < (l0.length : Int) := of_decide_eq_true uL
        obtain ⟨ad315, e315, hx315_0, hx315_1, hx315_2, hx315_3, hx315_4, hx315_5, hx315_6⟩ := at_T66 HR0.out x5_1 p315 q315
        obtain rfl : ad313 = ad315 := (by injection e315)
        replace p315 := eq_true p315
        replace q315 := eq_true q315
        go_wp2
        go_ret
        exact ⟨cq6, cq20⟩
      rw [if_pos c7] at H
      have c7b0 := beq_iff_eq.mpr c7
      have c7b1 := bne_eq_false_iff_eq.mpr c7
      clear c7
      by_cases c8 : ((rd_T66 l0 x5_1).f1.f2) = (wrap64 ((wrap64 ((wrap64 (x1_1 + 1)) + 1)) + 1))
      rotate_left
      · rw [if_neg c8] at H
        have c8b0 := beq_eq_false_iff_ne.mpr c8
        have c8b1 := bne_iff_ne.mpr c8
        obtain rfl := Option.some.inj H
        have p313 : 0 ≤ (x5_1 : Int) := of_decide_eq_true uL
        have q313 : x5_1 < (l0.length : Int) := of_decide_eq_true uL
        obtain ⟨ad313, e313, hx313_0, hx313_1, hx313_2, hx313_3, hx313_4, hx313_5, hx313_6⟩ := at_T66 HR0.out x5_1 p313 q313
        cases e313
        replace p313 := eq_true p313
        replace q313 := eq_true q313
        have p314 : 0 ≤ (x5_1 : Int) := of_decide_eq_true uL
        have q314 : x5_1 < (l0.length : Int) := of_decide_eq_true uL
        obtain ⟨ad314, e314, hx314_0, hx314_1, hx314_2, hx314_3, hx314_4, hx314_5, hx314_6⟩ := at_T66 HR0.out x5_1 p314 q314
        obtain rfl : ad313 = ad314 := (by injection e314)
        replace p314 := eq_true p314
        replace q314 := eq_true q314
        have p315 : 0 ≤ (x5_1 : Int) := of_decide_eq_true uL
        have q315 : x5_1 < (l0.length : Int) := of_decide_eq_true uL
        obtain ⟨ad315, e315, hx315_0, hx315_1, hx315_2, hx315_3, hx315_4, hx315_5, hx315_6⟩ := at_T66 HR0.out x5_1 p315 q315
        obtain rfl : ad313 = ad315 := (by injection e315)
        replace p315 := eq_true p315
        replace q315 := eq_true q315
        have p316 : 0 ≤ (x5_1 : Int) := of_decide_eq_true uL
        have q316 : x5_1 < (l0.length : Int) := of_decide_eq_true uL
        obtain ⟨ad316, e316, hx316_0, hx316_1, hx316_2, hx316_3, hx316_4, hx316_5, hx316_6⟩ := at_T66 HR0.out x5_1 p316 q316
        obtain rfl : ad313 = ad316 := (by injection e316)
        replace p316 := eq_true p316
        replace q316 := eq_true q316
        go_wp2
        go_ret
        exact ⟨cq6, cq20⟩
      rw [if_pos c8] at H
      have c8b0 := beq_iff_eq.mpr c8
      have c8b1 := bne_eq_false_iff_eq.mpr c8
      clear c8
      by_cases c9 : ((rd_T66 l0 x5_1).f1.f3) = (wrap64 ((wrap64 ((wrap64 ((wrap64 (x1_1 + 1)) + 1)) + 1)) + 1))
      rotate_left
      · rw [if_neg c9] at H
        have c9b0 := beq_eq_false_iff_ne.mpr c9
        have c9b1 := bne_iff_ne.mpr c9
        obtain rfl := Option.some.inj H
        have p313 : 0 ≤ (x5_1 : Int) := of_decide_eq_true uL
        have q313 : x5_1 < (l0.length : Int) := of_decide_eq_true uL
        obtain ⟨ad313, e313, hx313_0, hx313_1, hx313_2, hx313_3, hx313_4, hx313_5, hx313_6⟩ := at_T66 HR0.out x5_1 p313 q313
        cases e313
        replace p313 := eq_true p313
        replace q313 := eq_true q313
        have p314 : 0 ≤ (x5_1 : Int) := of_decide_eq_true uL
        have q314 : x5_1 < (l0.length : Int) := of_decide_eq_true uL
        obtain ⟨ad314, e314, hx314_0, hx314_1, hx314_2, hx314_3, hx314_4, hx314_5, hx314_6⟩ := at_T66 HR0.out x5_1 p314 q314
        obtain rfl : ad313 = ad314 := (by injection e314)
        replace p314 := eq_true p314
        replace q314 := eq_true q314
        have p315 : 0 ≤ (x5_1 : Int) := of_decide_eq_true uL
        have q315 : x5_1 < (l0.length : Int) := of_decide_eq_true uL
        obtain ⟨ad315, e315, hx315_0, hx315_1, hx315_2, hx315_3, hx315_4, hx315_5, hx315_6⟩ := at_T66 HR0.out x5_1 p315 q315
        obtain rfl : ad313 = ad315 := (by injection e315)
        replace p315 := eq_true p315
        replace q315 := eq_true q315
        have p316 : 0 ≤ (x5_1 : Int) := of_decide_eq_true uL
        have q316 : x5_1 < (l0.length : Int) := of_decide_eq_true uL
        obtain ⟨ad316, e316, hx316_0, hx316_1, hx316_2, hx316_3, hx316_4, hx316_5, hx316_6⟩ := at_T66 HR0.out x5_1 p316 q316
        obtain rfl : ad313 = ad316 := (by injection e316)
        replace p316 := eq_true p316
        replace q316 := eq_true q316
        have p317 : 0 ≤ (x5_1 : Int) := of_decide_eq_true uL
        have q317 : x5_1 < (l0.length : Int) := of_decide_eq_true uL
        obtain ⟨ad317, e317, hx317_0, hx317_1, hx317_2, hx317_3, hx317_4, hx317_5, hx317_6⟩ := at_T66 HR0.out x5_1 p317 q317
        obtain rfl : ad313 = ad317 := (by injection e317)
        replace p317 := eq_true p317
        replace q317 := eq_true q317
        go_wp2
        go_ret
        exact ⟨cq6, cq20⟩
      rw [if_pos c9] at H
      have c9b0 := beq_iff_eq.mpr c9
      have c9b1 := bne_eq_false_iff_eq.mpr c9
      clear c9
      by_cases c10 : ((rd_T66 l0 x5_1).f1.f4) = (wrap64 ((wrap64 ((wrap64 ((wrap64 ((wrap64 (x1_1 + 1)) + 1)) + 1)) + 1)) + 1))
      rotate_left
      · rw [if_neg c10] at H
        have c10b0 := beq_eq_false_iff_ne.mpr c10
        have c10b1 := bne_iff_ne.mpr c10
        obtain rfl := Option.some.inj H
        have p313 : 0 ≤ (x5_1 : Int) := of_decide_eq_true uL
        have q313 : x5_1 < (l0.length : Int) := of_decide_eq_true uL
        obtain ⟨ad313, e313, hx313_0, hx313_1, hx313_2, hx313_3, hx313_4, hx313_5, hx313_6⟩ := at_T66 HR0.out x5_1 p313 q313
        cases e313
        replace p313 := eq_true p313
        replace q313 := eq_true q313
        have p314 : 0 ≤ (x5_1 : Int) := of_decide_eq_true uL
        have q314 : x5_1 < (l0.length : Int) := of_decide_eq_true uL
        obtain ⟨ad314, e314, hx314_0, hx314_1, hx314_2, hx314_3, hx314_4, hx314_5, hx314_6⟩ := at_T66 HR0.out x5_1 p314 q314
        obtain rfl : ad313 = ad314 := (by injection e314)
        replace p314 := eq_true p314
        replace q314 := eq_true q314
        have p315 : 0 ≤ (x5_1 : Int) := of_decide_eq_true uL
        have q315 : x5_1 < (l0.length : Int) := of_decide_eq_true uL
        obtain ⟨ad315, e315, hx315_0, hx315_1, hx315_2, hx315_3, hx315_4, hx315_5, hx315_6⟩ := at_T66 HR0.out x5_1 p315 q315
        obtain rfl : ad313 = ad315 := (by injection e315)
        replace p315 := eq_true p315
        replace q315 := eq_true q315
        have p316 : 0 ≤ (x5_1 : Int) := of_decide_eq_true uL
        have q316 : x5_1 < (l0.length : Int) := of_decide_eq_true uL
        obtain ⟨ad316, e316, hx316_0, hx316_1, hx316_2, hx316_3, hx316_4, hx316_5, hx316_6⟩ := at_T66 HR0.out x5_1 p316 q316
        obtain rfl : ad313 = ad316 := (by injection e316)
        replace p316 := eq_true p316
        replace q316 := eq_true q316
        have p317 : 0 ≤ (x5_1 : Int) := of_decide_eq_true uL
        have q317 : x5_1 < (l0.length : Int) := of_decide_eq_true uL
        obtain ⟨ad317, e317, hx317_0, hx317_1, hx317_2, hx317_3, hx317_4, hx317_5, hx317_6⟩ := at_T66 HR0.out x5_1 p317 q317
        obtain rfl : ad313 = ad317 := (by injection e317)
        replace p317 := eq_true p317
        replace q317 := eq_true q317
        have p318 : 0 ≤ (x5_1 : Int) := of_decide_eq_true uL
        have q318 : x5_1 < (l0.length : Int) := of_decide_eq_true uL
        obtain ⟨ad318, e318, hx318_0, hx318_1, hx318_2, hx318_3, hx318_4, hx318_5, hx318_6⟩ := at_T66 HR0.out x5_1 p318 q318
        obtain rfl : ad313 = ad318 := (by injection e318)
        replace p318 := eq_true p318
        replace q318 := eq_true q318
        go_wp2
        go_ret
        exact ⟨cq6, cq20⟩
      rw [if_pos c10] at H
      have c10b0 := beq_iff_eq.mpr c10
      have c10b1 := bne_eq_false_iff_eq.mpr c10
      clear c10
      by_cases c11 : ((rd_T66 l0 x5_1).f1.f5) = (wrap64 ((wrap64 ((wrap64 ((wrap64 ((wrap64 ((wrap64 (x1_1 + 1)) + 1)) + 1)) + 1)) + 1)) + 1))
      rotate_left
      · rw [if_neg c11] at H
        have c11b0 := beq_eq_false_iff_ne.mpr c11
        have c11b1 := bne_iff_ne.mpr c11
        obtain rfl := Option.some.inj H
        have p313 : 0 ≤ (x5_1 : Int) := of_decide_eq_true uL
        have q313 : x5_1 < (l0.length : Int) := of_decide_eq_true uL
        obtain ⟨ad313, e313, hx313_0, hx313_1, hx313_2, hx313_3, hx313_4, hx313_5, hx313_6⟩ := at_T66 HR0.out x5_1 p313 q313
        cases e313
        replace p313 := eq_true p313
        replace q313 := eq_true q313
        have p314 : 0 ≤ (x5_1 : Int) := of_decide_eq_true uL
        have q314 : x5_1 < (l0.length : Int) := of_decide_eq_true uL
        obtain ⟨ad314, e314, hx314_0, hx314_1, hx314_2, hx314_3, hx314_4, hx314_5, hx314_6⟩ := at_T66 HR0.out x5_1 p314 q314
        obtain rfl : ad313 = ad314 := (by injection e314)
        replace p314 := eq_true p314
        replace q314 := eq_true q314
        have p315 : 0 ≤ (x5_1 : Int) := of_decide_eq_true uL
        have q315 : x5_1 < (l0.length : Int) := of_decide_eq_true uL
        obtain ⟨ad315, e315, hx315_0, hx315_1, hx315_2, hx315_3, hx315_4, hx315_5, hx315_6⟩ := at_T66 HR0.out x5_1 p315 q315
        obtain rfl : ad313 = ad315 := (by injection e315)
        replace p315 := eq_true p315
        replace q315 := eq_true q315
        have p316 : 0 ≤ (x5_1 : Int) := of_decide_eq_true uL
        have q316 : x5_1 < (l0.length : Int) := of_decide_eq_true uL
        obtain ⟨ad316, e316, hx316_0, hx316_1, hx316_2, hx316_3, hx316_4, hx316_5, hx316_6⟩ := at_T66 HR0.out x5_1 p316 q316
        obtain rfl : ad313 = ad316 := (by injection e316)
        replace p316 := eq_true p316
        replace q316 := eq_true q316
        have p317 : 0 ≤ (x5_1 : Int) := of_decide_eq_true uL
        have q317 : x5_1 < (l0.length : Int) := of_decide_eq_true uL
        obtain ⟨ad317, e317, hx317_0, hx317_1, hx317_2, hx317_3, hx317_4, hx317_5, hx317_6⟩ := at_T66 HR0.out x5_1 p317 q317
        obtain rfl : ad313 = ad317 := (by injection e317)
        replace p317 := eq_true p317
        replace q317 := eq_true q317
        have p318 : 0 ≤ (x5_1 : Int) := of_decide_eq_true uL
        have q318 : x5_1 < (l0.length : Int) := of_decide_eq_true uL
        obtain ⟨ad318, e318, hx318_0, hx318_1, hx318_2, hx318_3, hx318_4, hx318_5, hx318_6⟩ := at_T66 HR0.out x5_1 p318 q318
        obtain rfl : ad313 = ad318 := (by injection e318)
        replace p318 := eq_true p318
        replace q318 := eq_true q318
        have p319 : 0 ≤ (x5_1 : Int) := of_decide_eq_true uL
        have q319 : x5_1 < (l0.length : Int) := of_decide_eq_true uL
        obtain ⟨ad319, e319, hx319_0, hx319_1, hx319_2, hx319_3, hx319_4, hx319_5, hx319_6⟩ := at_T66 HR0.out x5_1 p319 q319
        obtain rfl : ad313 = ad319 := (by injection e319)
        replace p319 := eq_true p319
        replace q319 := eq_true q319
        go_wp2
        go_ret
        exact ⟨cq6, cq20⟩
      rw [if_pos c11] at H
      have c11b0 := beq_iff_eq.mpr c11
      have c11b1 := bne_eq_false_iff_eq.mpr c11
      clear c11
      have H' := Aside0.mk H
      clear H
      have p313 : 0 ≤ (x5_1 : Int) := of_decide_eq_true uL
      have q313 : x5_1 < (l0.length : Int) := of_decide_eq_true uL
      obtain ⟨ad313, e313, hx313_0, hx313_1, hx313_2, hx313_3, hx313_4, hx313_5, hx313_6⟩ := at_T66 HR0.out x5_1 p313 q313
      cases e313
      replace p313 := eq_true p313
      replace q313 := eq_true q313
      have p314 : 0 ≤ (x5_1 : Int) := of_decide_eq_true uL
      have q314 : x5_1 < (l0.length : Int) := of_decide_eq_true uL
      obtain ⟨ad314, e314, hx314_0, hx314_1, hx314_2, hx314_3, hx314_4, hx314_5, hx314_6⟩ := at_T66 HR0.out x5_1 p314 q314
      obtain rfl : ad313 = ad314 := (by injection e314)
      replace p314 := eq_true p314
      replace q314 := eq_true q314
      have p315 : 0 ≤ (x5_1 : Int) := of_decide_eq_true uL
      have q315 : x5_1 < (l0.length : Int) := of_decide_eq_true uL
      obtain ⟨ad315, e315, hx315_0, hx315_1, hx315_2, hx315_3, hx315_4, hx315_5, hx315_6⟩ := at_T66 HR0.out x5_1 p315 q315
      obtain rfl : ad313 = ad315 := (by injection e315)
      replace p315 := eq_true p315
      replace q315 := eq_true q315
      have p316 : 0 ≤ (x5_1 : Int) := of_decide_eq_true uL
      have q316 : x5_1 < (l0.length : Int) := of_decide_eq_true uL
      obtain ⟨ad316, e316, hx316_0, hx316_1, hx316_2, hx316_3, hx316_4, hx316_5, hx316_6⟩ := at_T66 HR0.out x5_1 p316 q316
      obtain rfl : ad313 = ad316 := (by injection e316)
      replace p316 := eq_true p316
      replace q316 := eq_true q316
      have p317 : 0 ≤ (x5_1 : Int) := of_decide_eq_true uL
      have q317 : x5_1 < (l0.length : Int) := of_decide_eq_true uL
      obtain ⟨ad317, e317, hx317_0, hx317_1, hx317_2, hx317_3, hx317_4, hx317_5, hx317_6⟩ := at_T66 HR0.out x5_1 p317 q317
      obtain rfl : ad313 = ad317 := (by injection e317)
      replace p317 := eq_true p317
      replace q317 := eq_true q317
      have p318 : 0 ≤ (x5_1 : Int) := of_decide_eq_true uL
      have q318 : x5_1 < (l0.length : Int) := of_decide_eq_true uL
      obtain ⟨ad318, e318, hx318_0, hx318_1, hx318_2, hx318_3, hx318_4, hx318_5, hx318_6⟩ := at_T66 HR0.out x5_1 p318 q318
      obtain rfl : ad313 = ad318 := (by injection e318)
      replace p318 := eq_true p318
      replace q318 := eq_true q318
      have p319 : 0 ≤ (x5_1 : Int) := of_decide_eq_true uL
      have q319 : x5_1 < (l0.length : Int) := of_decide_eq_true uL
      obtain ⟨ad319, e319, hx319_0, hx319_1, hx319_2, hx319_3, hx319_4, hx319_5, hx319_6⟩ := at_T66 HR0.out x5_1 p319 q319
      obtain rfl : ad313 = ad319 := (by injection e319)
      replace p319 := eq_true p319
      replace q319 := eq_true q319
      go_wp2
      go_roundg k1
      case measure => have := HK1.out; omega
      case rel => exact ⟨(wrap64 ((wrap64 ((wrap64 ((wrap64 ((wrap64 ((wrap64 ((wrap64 (x1_1 + 1)) + 1)) + 1)) + 1)) + 1)) + 1)) + 1)), (wrap64 (x5_1 + 1)), cq6, cq6, H', ⟨by have := HK1.out; omega⟩, cq20⟩

/-! ### laws_FnExactParseLog: function 5 -/
mutual
def laws_FnExactParseLog.j0 : Nat → ByteArray → List (S66) → Bool → List (S66) → Bool → Option (Bool)
  | 0, _, _, _, _, _ => none
  | k + 1, x0, x3, x4, x5, x32 => if x32 = true then (some false) else ((laws_markEntryS.f k x5 1).bind fun bt329 => ((laws_heldEntryS.f k bt329.2 1).bind fun t331 => (if t331 < 0 then (some false) else (if t331 = bt329.1 then ((impl_ParseLog.f k x0).bind fun bt332 => ((laws_eqEntryS.f k bt332.1 x3).bind fun t336 => (if t336 = true then (laws_FnExactParseLog.j1 k bt329.2 bt329.1 (bt332.2 != x4)) else (laws_FnExactParseLog.j1 k bt329.2 bt329.1 true)))) else (some false)))))
def laws_FnExactParseLog.j1 : Nat → List (S66) → Int → Bool → Option (Bool)
  | 0, _, _, _ => none
  | k + 1, x5, x7, x57 => if x57 = true then (some false) else ((laws_heldEntryS.f k x5 1).bind fun t337 => (if t337 < 0 then (some false) else (if t337 = x7 then (some true) else (some false))))
end
def laws_FnExactParseLog.f (k : Nat) (a0 : ByteArray) : Option (Bool) := if (a0.size : Int) > 1048576 then (some true) else ((spec_ParseLog.f k a0).bind fun bt320 => ((impl_ParseLog.f k a0).bind fun bt324 => ((laws_eqEntryS.f k bt324.1 bt320.1).bind fun t328 => (if t328 = true then (laws_FnExactParseLog.j0 k a0 bt320.1 bt320.2 bt324.1 (bt324.2 != bt320.2)) else (laws_FnExactParseLog.j0 k a0 bt320.1 bt320.2 bt324.1 true)))))
theorem laws_FnExactParseLog.mono_l : ∀ k, (∀ y0 y1 y2 y3 y4, uE (laws_FnExactParseLog.j0 k y0 y1 y2 y3 y4) (laws_FnExactParseLog.j0 (k + 1) y0 y1 y2 y3 y4)) ∧ (∀ y0 y1 y2, uE (laws_FnExactParseLog.j1 k y0 y1 y2) (laws_FnExactParseLog.j1 (k + 1) y0 y1 y2))
  | 0 => ⟨fun _ _ _ _ _ r h => by simp [laws_FnExactParseLog.j0] at h, fun _ _ _ r h => by simp [laws_FnExactParseLog.j1] at h⟩
  | k + 1 => by
    obtain ⟨ih0, ih1⟩ := laws_FnExactParseLog.mono_l k
    refine ⟨?_, ?_⟩
    · intro y0 y1 y2 y3 y4
      unfold laws_FnExactParseLog.j0
      repeat' first
      | (with_reducible exact ih0 _ _ _ _ _)
      | (with_reducible exact ih1 _ _ _)
      | (with_reducible exact impl_ParseLog.mono _ _)
      | (with_reducible exact laws_eqEntryS.mono _ _ _)
      | (with_reducible exact laws_heldEntryS.mono _ _ _)
      | (with_reducible exact laws_markEntryS.mono _ _ _)
      | (with_reducible exact spec_ParseLog.mono _ _)
      | (with_reducible exact uE.refl _)
      | (with_reducible exact uE.none _)
      | (with_reducible refine uE.ite ?_ ?_)
      | (with_reducible refine uE.bind ?_ (fun _ => ?_))
      | exact ih0 _ _ _ _ _
      | exact ih1 _ _ _
      | exact uE.none _
      | refine uE.ite ?_ ?_
      | refine uE.bind ?_ (fun _ => ?_)
    intro y0 y1 y2
    unfold laws_FnExactParseLog.j1
    repeat' first
    | (with_reducible exact ih0 _ _ _ _ _)
    | (with_reducible exact ih1 _ _ _)
    | (with_reducible exact impl_ParseLog.mono _ _)
    | (with_reducible exact laws_eqEntryS.mono _ _ _)
    | (with_reducible exact laws_heldEntryS.mono _ _ _)
    | (with_reducible exact laws_markEntryS.mono _ _ _)
    | (with_reducible exact spec_ParseLog.mono _ _)
    | (with_reducible exact uE.refl _)
    | (with_reducible exact uE.none _)
    | (with_reducible refine uE.ite ?_ ?_)
    | (with_reducible refine uE.bind ?_ (fun _ => ?_))
    | exact ih0 _ _ _ _ _
    | exact ih1 _ _ _
    | exact uE.none _
    | refine uE.ite ?_ ?_
    | refine uE.bind ?_ (fun _ => ?_)
theorem laws_FnExactParseLog.mono : ∀ a0 k, uE (laws_FnExactParseLog.f k a0) (laws_FnExactParseLog.f (k + 1) a0) := by
  intro a0 k
  obtain ⟨ih0, ih1⟩ := laws_FnExactParseLog.mono_l k
  unfold laws_FnExactParseLog.f
  repeat' first
      | (with_reducible exact ih0 _ _ _ _ _)
      | (with_reducible exact ih1 _ _ _)
      | (with_reducible exact impl_ParseLog.mono _ _)
      | (with_reducible exact laws_eqEntryS.mono _ _ _)
      | (with_reducible exact laws_heldEntryS.mono _ _ _)
      | (with_reducible exact laws_markEntryS.mono _ _ _)
      | (with_reducible exact spec_ParseLog.mono _ _)
      | (with_reducible exact uE.refl _)
      | (with_reducible exact uE.none _)
      | (with_reducible refine uE.ite ?_ ?_)
      | (with_reducible refine uE.bind ?_ (fun _ => ?_))
      | exact ih0 _ _ _ _ _
      | exact ih1 _ _ _
      | exact uE.none _
      | refine uE.ite ?_ ?_
      | refine uE.bind ?_ (fun _ => ?_)
set_option maxHeartbeats 8000000 in
set_option maxRecDepth 100000 in
theorem laws_FnExactParseLog.calls (k : Nat) (a0 : ByteArray) (w : World) (hWF : WF w) (h : laws_FnExactParseLog.f k a0 = some true) :
    Calls Tryd.prog 5 #[.string a0] w fun e w' => e = .returned (.bool true) ∧ Below w.heap.size w w' := by
  have HB := Aside0.mk (Below.refl w.heap.size w)
  have H : (if (a0.size : Int) > 1048576 then (some true) else ((spec_ParseLog.f k a0).bind fun bt320 => ((impl_ParseLog.f k a0).bind fun bt324 => ((laws_eqEntryS.f k bt324.1 bt320.1).bind fun t328 => (if t328 = true then (laws_FnExactParseLog.j0 k a0 bt320.1 bt320.2 bt324.1 (bt324.2 != bt320.2)) else (laws_FnExactParseLog.j0 k a0 bt320.1 bt320.2 bt324.1 true)))))) = some true := h
  clear h
  by_cases c2 : (a0.size : Int) > 1048576
  · rw [if_pos c2] at H
    have c2b0 := decide_eq_true c2
    have c2b1 : decide (1048576 < a0.size) = true := decide_eq_true (by omega)
    clear c2
    go_enter Tryd.func5, Tryd.ntmps5
    go_wp2
    go_ret
    exact ⟨cq3, cq1⟩
  rw [if_neg c2] at H
  have c2b0 := decide_eq_false c2
  have c2b1 : decide (1048576 < a0.size) = false := decide_eq_false (by omega)
  clear c2
  replace H := Option.bind_eq_some_iff.mp H
  obtain ⟨⟨t320, t321⟩, A30, H⟩ := H
  try dsimp only at H
  have A3 := Aside0.mk A30
  clear A30
  replace H := Option.bind_eq_some_iff.mp H
  obtain ⟨⟨t324, t325⟩, A40, H⟩ := H
  try dsimp only at H
  have A4 := Aside0.mk A40
  clear A40
  have HC5 := Aside0.mk H
  clear H
  go_enter Tryd.func5, Tryd.ntmps5
  go_upto_region 5 with (first | ((with_reducible refine uM (f := 32) rfl ?_); refine uY (some 16) Tryd.func32 #[.string a0] ?_; (with_reducible refine (spec_ParseLog.calls k a0 t320 t321 _ A3.out).mono ?_); rintro e w6 ⟨v322, rfl, ho0, hb⟩; refine ⟨_, rfl, ?_⟩; have HO323 := Aside0.mk (Kd.R_lower ho0 (vA cq1)); replace HB := uR HB hb; (try clear hb); (try clear ho0)) | ((with_reducible refine uM (f := 33) rfl ?_); refine uY (some 21) Tryd.func33 #[.string a0] ?_; (with_reducible refine (impl_ParseLog.calls k a0 t324 t325 _ ?side1 A4.out).mono ?_); (case side1 => exact cq18); rintro e w7 ⟨v326, rfl, ho0, hb⟩; refine ⟨_, rfl, ?_⟩; have HO327 := Aside0.mk (Kd.R_lower (Kd.R_new' ho0 (Kd.R_lt (rSR HO323.out))) (vA cq1)); replace HO323 := Aside0.mk (Kd.R_elder' (rSR HO323.out) (Kd.R_base ho0) hb); replace HB := uR HB hb; (try clear hb); (try clear ho0)))
  (try simp only [Act.put, vD, vE, vF])
  go_cut [32] (fun v32 wc => ∃ (kq : Nat) (x32_4 : Bool), v32 = .bool x32_4 ∧ Aside0 (laws_FnExactParseLog.j0 kq a0 t320 t321 t324 x32_4 = some true) ∧ Aside0 (kq ≤ k) ∧ Aside0 (Kd.R k66 66 wc w.heap.size (fun k_ => some k_ ≠ (v326 : Value).ownBlock) v322 t320) ∧ Aside0 (Kd.R k66 66 wc w.heap.size (fun k_ => some k_ ≠ (v322 : Value).ownBlock) v326 t324) ∧ Aside0 (Below w.heap.size w wc))
  case first =>
    have H := HC5.out
    clear HC5
    replace H := Option.bind_eq_some_iff.mp H
    obtain ⟨t328, A80, H⟩ := H
    try dsimp only at H
    have A8 := Aside0.mk A80
    clear A80
    by_cases c9 : t328 = true
    · subst c9
      try rw [if_pos rfl] at H
      have H' := Aside0.mk H
      clear H
      obtain ⟨Ao10, co10, eo10⟩ := Kd.R_slice HO327.out
      subst eo10
      obtain ⟨Ao11, co11, eo11⟩ := Kd.R_slice HO323.out
      subst eo11
      go_wp2_with (first | ((with_reducible refine uM (f := 34) rfl ?_); refine uY (some 26) Tryd.func34 #[.slice Ao10 t324.length co10, .slice Ao11 t320.length co11] ?_; (with_reducible refine (laws_eqEntryS.calls k _ _ t324 _ _ t320 true _ ?side1 ?side2 ?side3 ?side4 A8.out).mono ?_); (case side1 => repeat (first | exact (Kd.uQ HO327.out).2.2 | (with_reducible refine Kd.C_alloc ?_ _) | (with_reducible refine Kd.C_drewN ?_ _) | (with_reducible refine Kd.C_drew ?_))); (case side2 => exact (Kd.uQ HO327.out).2.1); (case side3 => repeat (first | exact (Kd.uQ HO323.out).2.2 | (with_reducible refine Kd.C_alloc ?_ _) | (with_reducible refine Kd.C_drewN ?_ _) | (with_reducible refine Kd.C_drew ?_))); (case side4 => exact (Kd.uQ HO323.out).2.1); rintro e w12 ⟨rfl, hb⟩; refine ⟨_, rfl, ?_⟩; replace HO323 := Kd.tR HO323 hb; replace HO327 := Kd.tR HO327 hb; replace HB := uR HB hb; (try clear hb)))
      go_meet
      case rel => exact ⟨_, ((t325 != t321)), cq6, H', ⟨by first | omega | exact Nat.le_refl _⟩, ⟨by (with_reducible repeat (first | apply Kd.uV | apply Kd.uU | apply Kd.uT)); exact Kd.R_mono HO323.out (fun _ hk => hk.2)⟩, ⟨by (with_reducible repeat (first | apply Kd.uV | apply Kd.uU | apply Kd.uT)); exact Kd.R_mono HO327.out (fun _ hk => hk.2)⟩, ⟨cq1⟩⟩
    replace c9 := Bool.eq_false_iff.mpr c9
    subst c9
    try rw [if_neg (show ¬ (false = true) by decide)] at H
    have H' := Aside0.mk H
    clear H
    obtain ⟨Ao13, co13, eo13⟩ := Kd.R_slice HO327.out
    subst eo13
    obtain ⟨Ao14, co14, eo14⟩ := Kd.R_slice HO323.out
    subst eo14
    go_wp2_with (first | ((with_reducible refine uM (f := 34) rfl ?_); refine uY (some 26) Tryd.func34 #[.slice Ao13 t324.length co13, .slice Ao14 t320.length co14] ?_; (with_reducible refine (laws_eqEntryS.calls k _ _ t324 _ _ t320 false _ ?side1 ?side2 ?side3 ?side4 A8.out).mono ?_); (case side1 => repeat (first | exact (Kd.uQ HO327.out).2.2 | (with_reducible refine Kd.C_alloc ?_ _) | (with_reducible refine Kd.C_drewN ?_ _) | (with_reducible refine Kd.C_drew ?_))); (case side2 => exact (Kd.uQ HO327.out).2.1); (case side3 => repeat (first | exact (Kd.uQ HO323.out).2.2 | (with_reducible refine Kd.C_alloc ?_ _) | (with_reducible refine Kd.C_drewN ?_ _) | (with_reducible refine Kd.C_drew ?_))); (case side4 => exact (Kd.uQ HO323.out).2.1); rintro e w15 ⟨rfl, hb⟩; refine ⟨_, rfl, ?_⟩; replace HO323 := Kd.tR HO323 hb; replace HO327 := Kd.tR HO327 hb; replace HB := uR HB hb; (try clear hb)))
    go_meet
    case rel => exact ⟨_, (true), cq6, H', ⟨by first | omega | exact Nat.le_refl _⟩, ⟨by (with_reducible repeat (first | apply Kd.uV | apply Kd.uU | apply Kd.uT)); exact Kd.R_mono HO323.out (fun _ hk => hk.2)⟩, ⟨by (with_reducible repeat (first | apply Kd.uV | apply Kd.uU | apply Kd.uT)); exact Kd.R_mono HO327.out (fun _ hk => hk.2)⟩, ⟨cq1⟩⟩
  case rest =>
    clear HC5
    try clear c2
    try clear c2b0
    try clear c2b1
    obtain ⟨kq, x32_4, rfl, HA, HJ4, HO_3, HO_5, HB⟩ := hcut
    cases kq with
    | zero => exact absurd HA.out (by simp [laws_FnExactParseLog.j0])
    | succ kj4 =>
      have H := HA.out
      clear HA
      simp only [laws_FnExactParseLog.j0] at H
      by_cases c16 : x32_4 = true
      · subst c16
        try rw [if_pos rfl] at H
        exact absurd H (by simp)
      replace c16 := Bool.eq_false_iff.mpr c16
      subst c16
      try rw [if_neg (show ¬ (false = true) by decide)] at H
      replace H := Option.bind_eq_some_iff.mp H
      obtain ⟨⟨t329, t330⟩, A170, H⟩ := H
      try dsimp only at H
      have A17 := Aside0.mk A170
      clear A170
      replace H := Option.bind_eq_some_iff.mp H
      obtain ⟨t331, A180, H⟩ := H
      try dsimp only at H
      have A18 := Aside0.mk A180
      clear A180
      by_cases c19 : t331 < 0
      · rw [if_pos c19] at H
        have c19b0 := decide_eq_true c19
        clear c19
        exact absurd H (by simp)
      rw [if_neg c19] at H
      have c19b0 := decide_eq_false c19
      clear c19
      by_cases c20 : t331 = t329
      rotate_left
      · rw [if_neg c20] at H
        have c20b0 := beq_eq_false_iff_ne.mpr c20
        have c20b1 := bne_iff_ne.mpr c20
        exact absurd H (by simp)
      rw [if_pos c20] at H
      have c20b0 := beq_iff_eq.mpr c20
      have c20b1 := bne_eq_false_iff_eq.mpr c20
      clear c20
      replace H := Option.bind_eq_some_iff.mp H
      obtain ⟨⟨t332, t333⟩, A210, H⟩ := H
      try dsimp only at H
      have A21 := Aside0.mk A210
      clear A210
      have HC22 := Aside0.mk H
      clear H
      obtain ⟨Ao23, co23, eo23⟩ := Kd.R_slice HO_5.out
      subst eo23
      go_upto_region 16 with (first | ((with_reducible refine uM (f := 35) rfl ?_); refine uY (some 35) Tryd.func35 #[.slice Ao23 t324.length co23, .int .i64 1] ?_; (with_reducible refine (laws_markEntryS.calls kj4 (fun k_ => some k_ = (.slice Ao23 t324.length co23 : Value).ownBlock) (.slice Ao23 t324.length co23) t324 1 t329 t330 w _ ?side1 ?side2 A17.out).mono ?_); (case side1 => exact cq1); (case side2 => exact Kd.R_tight rfl HO_5.out); rintro e w24 ⟨rfl, hy0, hb, hkp⟩; refine ⟨_, rfl, ?_⟩; replace HO_3 := Aside0.mk (Kd.R_mono (ok' := fun k_ => some k_ ≠ (.slice Ao23 t324.length co23 : Value).ownBlock) (Kd.R_keptB (HO_3.out) hkp (fun k_ hk_ hs_ => (hk_) hs_)) (fun k_ hk_ => hk_.1)); replace HO_5 := Aside0.mk (Kd.R_reok rfl hy0 (fun k_ e_ => HO_5.out.1 k_ e_)); replace HB := Aside0.mk (hb); (try clear hb)) | ((with_reducible refine uM (f := 36) rfl ?_); refine goesL_ (some 38) rfl rfl Tryd.func36 (by kernel_rfl) rfl #[.slice Ao23 t330.length co23, .int .i64 1] rfl (by (try simp only [List.map_toArray, List.map_cons, List.map_nil]); first | done | (rw [show t330.length = t324.length from (Kd.uQ HO_5.out).1.symm] <;> rfl) | rfl | (simp only [List.length_drop, List.length_take]; rfl)) ?_; (with_reducible refine (laws_heldEntryS.calls kj4 _ _ t330 1 t331 _ ?side1 ?side2 A18.out).mono ?_); (case side1 => repeat (first | exact (Kd.uQ HO_5.out).2.2 | (with_reducible refine Kd.C_alloc ?_ _) | (with_reducible refine Kd.C_drewN ?_ _) | (with_reducible refine Kd.C_drew ?_))); (case side2 => rw [show t330.length = t324.length from (Kd.uQ HO_5.out).1.symm]; exact (Kd.uQ HO_5.out).2.1); rintro e w' ⟨rfl, ⟨nd, rfl⟩⟩; refine ⟨_, rfl, ?_⟩) | ((with_reducible refine uM (f := 33) rfl ?_); refine uY (some 46) Tryd.func33 #[.string a0] ?_; (with_reducible refine (impl_ParseLog.calls kj4 a0 t332 t333 _ ?side1 A21.out).mono ?_); (case side1 => exact cq18); rintro e w25 ⟨v334, rfl, ho0, hb⟩; refine ⟨_, rfl, ?_⟩; have HO335 := Aside0.mk (Kd.R_lower (Kd.R_new' (Kd.R_new' ho0 (Kd.R_lt (rSR HO_3.out))) (Kd.R_lt (rSR HO_5.out))) (vA cq1)); replace HO_3 := Aside0.mk (Kd.R_elder' (rSR HO_3.out) (Kd.R_base ho0) hb); replace HO_5 := Aside0.mk (Kd.R_elder' (rSR HO_5.out) (Kd.R_base ho0) hb); replace HB := uR HB hb; (try clear hb); (try clear ho0)))
      (try simp only [Act.put, vD, vE, vF])
      go_cut [57] (fun v57 wc => ∃ (kq : Nat) (x57_21 : Bool), v57 = .bool x57_21 ∧ Aside0 (laws_FnExactParseLog.j1 kq t330 t329 x57_21 = some true) ∧ Aside0 (kq ≤ kj4) ∧ Aside0 (Kd.R k66 66 wc w.heap.size (fun _ => True) (.slice Ao23 t324.length co23) t330) ∧ Aside0 (Below w.heap.size w wc))
      case first =>
        have H := HC22.out
        clear HC22
        replace H := Option.bind_eq_some_iff.mp H
        obtain ⟨t336, A260, H⟩ := H
        try dsimp only at H
        have A26 := Aside0.mk A260
        clear A260
        by_cases c27 : t336 = true
        · subst c27
          try rw [if_pos rfl] at H
          have H' := Aside0.mk H
          clear H
          obtain ⟨Ao28, co28, eo28⟩ := Kd.R_slice HO335.out
          subst eo28
          obtain ⟨Ao29, co29, eo29⟩ := Kd.R_slice HO_3.out
          subst eo29
          go_wp2_with (first | ((with_reducible refine uM (f := 34) rfl ?_); refine uY (some 51) Tryd.func34 #[.slice Ao28 t332.length co28, .slice Ao29 t320.length co29] ?_; (with_reducible refine (laws_eqEntryS.calls kj4 _ _ t332 _ _ t320 true _ ?side1 ?side2 ?side3 ?side4 A26.out).mono ?_); (case side1 => repeat (first | exact (Kd.uQ HO335.out).2.2 | (with_reducible refine Kd.C_alloc ?_ _) | (with_reducible refine Kd.C_drewN ?_ _) | (with_reducible refine Kd.C_drew ?_))); (case side2 => exact (Kd.uQ HO335.out).2.1); (case side3 => exact cq37); (case side4 => exact (Kd.uQ HO_3.out).2.1); rintro e w30 ⟨rfl, hb⟩; refine ⟨_, rfl, ?_⟩; replace HO_3 := Kd.tR HO_3 hb; replace HO_5 := Kd.tR HO_5 hb; replace HO335 := Kd.tR HO335 hb; replace HB := uR HB hb; (try clear hb)))
          go_meet
          case rel => exact ⟨_, ((t333 != t321)), cq6, H', ⟨by have := HJ4.out; first | omega | exact Nat.le_refl _⟩, ⟨cq40⟩, ⟨cq1⟩⟩
        replace c27 := Bool.eq_false_iff.mpr c27
        subst c27
        try rw [if_neg (show ¬ (false = true) by decide)] at H
        have H' := Aside0.mk H
        clear H
        obtain ⟨Ao31, co31, eo31⟩ := Kd.R_slice HO335.out
        subst eo31
        obtain ⟨Ao32, co32, eo32⟩ := Kd.R_slice HO_3.out
        subst eo32
        go_wp2_with (first | ((with_reducible refine uM (f := 34) rfl ?_); refine uY (some 51) Tryd.func34 #[.slice Ao31 t332.length co31, .slice Ao32 t320.length co32] ?_; (with_reducible refine (laws_eqEntryS.calls kj4 _ _ t332 _ _ t320 false _ ?side1 ?side2 ?side3 ?side4 A26.out).mono ?_); (case side1 => repeat (first | exact (Kd.uQ HO335.out).2.2 | (with_reducible refine Kd.C_alloc ?_ _) | (with_reducible refine Kd.C_drewN ?_ _) | (with_reducible refine Kd.C_drew ?_))); (case side2 => exact (Kd.uQ HO335.out).2.1); (case side3 => exact cq37); (case side4 => exact (Kd.uQ HO_3.out).2.1); rintro e w33 ⟨rfl, hb⟩; refine ⟨_, rfl, ?_⟩; replace HO_3 := Kd.tR HO_3 hb; replace HO_5 := Kd.tR HO_5 hb; replace HO335 := Kd.tR HO335 hb; replace HB := uR HB hb; (try clear hb)))
        go_meet
        case rel => exact ⟨_, (true), cq6, H', ⟨by have := HJ4.out; first | omega | exact Nat.le_refl _⟩, ⟨cq40⟩, ⟨cq1⟩⟩
      case rest =>
        clear HC22
        try clear c2
        try clear c2b0
        try clear c2b1
        try clear c16
        try clear c19
        try clear c19b0
        try clear c20
        try clear c20b0
        try clear c20b1
        obtain ⟨kq, x57_21, rfl, HA, HJ21, HO_5, HB⟩ := hcut
        have hl5_21 := (Kd.uQ HO_5.out).1
        rw [hl5_21] at HO_5
        (try simp only [hl5_21])
        cases kq with
        | zero => exact absurd HA.out (by simp [laws_FnExactParseLog.j1])
        | succ kj21 =>
          have H := HA.out
          clear HA
          simp only [laws_FnExactParseLog.j1] at H
          by_cases c34 : x57_21 = true
          · subst c34
            try rw [if_pos rfl] at H
            exact absurd H (by simp)
          replace c34 := Bool.eq_false_iff.mpr c34
          subst c34
          try rw [if_neg (show ¬ (false = true) by decide)] at H
          replace H := Option.bind_eq_some_iff.mp H
          obtain ⟨t337, A350, H⟩ := H
          try dsimp only at H
          have A35 := Aside0.mk A350
          clear A350
          by_cases c36 : t337 < 0
          · rw [if_pos c36] at H
            have c36b0 := decide_eq_true c36
            clear c36
            exact absurd H (by simp)
          rw [if_neg c36] at H
          have c36b0 := decide_eq_false c36
          clear c36
          by_cases c37 : t337 = t329
          rotate_left
          · rw [if_neg c37] at H
            have c37b0 := beq_eq_false_iff_ne.mpr c37
            have c37b1 := bne_iff_ne.mpr c37
            exact absurd H (by simp)
          rw [if_pos c37] at H
          have c37b0 := beq_iff_eq.mpr c37
          have c37b1 := bne_eq_false_iff_eq.mpr c37
          clear c37
          go_wp2_with (first | ((with_reducible refine uM (f := 36) rfl ?_); refine uY (some 60) Tryd.func36 #[.slice Ao23 t330.length co23, .int .i64 1] ?_; (with_reducible refine (laws_heldEntryS.calls kj21 _ _ t330 1 t337 _ ?side1 ?side2 A35.out).mono ?_); (case side1 => repeat (first | exact (Kd.uQ HO_5.out).2.2 | (with_reducible refine Kd.C_alloc ?_ _) | (with_reducible refine Kd.C_drewN ?_ _) | (with_reducible refine Kd.C_drew ?_))); (case side2 => exact (Kd.uQ HO_5.out).2.1); rintro e w' ⟨rfl, ⟨nd, rfl⟩⟩; refine ⟨_, rfl, ?_⟩))
          go_ret
          exact ⟨cq3, cq1⟩

end Go.Proofs.YtcikahnmiiichaaDoor.L
