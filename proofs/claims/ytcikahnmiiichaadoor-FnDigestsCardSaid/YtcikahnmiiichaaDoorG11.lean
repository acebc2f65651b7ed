/- Go functions as Lean functions, and the proof that the code comes to them: written by a program of this session out of the translation. -/
import Derived.Test.YtcikahnmiiichaaDoorG0
import Derived.Test.YtcikahnmiiichaaDoorG1
import Derived.Test.YtcikahnmiiichaaDoorG2
import Derived.Test.YtcikahnmiiichaaDoorG3
import Derived.Test.YtcikahnmiiichaaDoorG7
import Derived.Test.YtcikahnmiiichaaDoorG10
namespace Go.Proofs.YtcikahnmiiichaaDoor.G
open List renaming setIfInBounds_toArray → uY, set_cons_zero → uZ, set_cons_succ → vA
open Go.World renaming block_lt_of_cell? → vE
open Go.Proofs.YtcikahnmiiichaaDoor.Given
open Go.RowKit Go.Proofs.YtcikahnmiiichaaDoorW.PrintWords Go.Proofs.YtcikahnmiiichaaDoorW.PrintLast Go.Proofs.YtcikahnmiiichaaDoorW.PrintMore
attribute [local go_sem] max2_int min2_int max_two min_two max_three min_three max_four min_four   -- for this text's walks alone
set_option linter.unusedVariables false
set_option linter.unusedSimpArgs false

attribute [local go_sem high] eqA66
/-! ### spec_CommonPrefix: function 12 -/
def spec_CommonPrefix.l0 : Nat → List (S66) → List (S66) → Int → Option (Int)
  | 0, _, _, _ => none
  | k + 1, x0, x1, x5 => if x5 < (x0.length : Int) then (if x5 < (x1.length : Int) then (if 0 ≤ x5 then (if (((rd_T66 x0 x5).f0) == ((rd_T66 x1 x5).f0) && ((((rd_T66 x0 x5).f1.f0) == ((rd_T66 x1 x5).f1.f0) && (((rd_T66 x0 x5).f1.f1) == ((rd_T66 x1 x5).f1.f1) && (((rd_T66 x0 x5).f1.f2) == ((rd_T66 x1 x5).f1.f2) && (((rd_T66 x0 x5).f1.f3) == ((rd_T66 x1 x5).f1.f3) && (((rd_T66 x0 x5).f1.f4) == ((rd_T66 x1 x5).f1.f4) && (((rd_T66 x0 x5).f1.f5) == ((rd_T66 x1 x5).f1.f5))))))))) = true then (spec_CommonPrefix.l0 k x0 x1 (wrap64 (x5 + 1))) else (some x5)) else (none)) else (some x5)) else (some x5)
def spec_CommonPrefix.f (k : Nat) (l0 : List (S66)) (l1 : List (S66)) : Option (Int) := spec_CommonPrefix.l0 k l0 l1 0
theorem spec_CommonPrefix.mono_l : ∀ k, (∀ y0 y1 y2, uF (spec_CommonPrefix.l0 k y0 y1 y2) (spec_CommonPrefix.l0 (k + 1) y0 y1 y2))
  | 0 => fun _ _ _ r h => by simp [spec_CommonPrefix.l0] at h
  | k + 1 => by
    have ih0 := spec_CommonPrefix.mono_l k
    intro y0 y1 y2
    unfold spec_CommonPrefix.l0
    repeat' first
    | (with_reducible exact ih0 _ _ _)
    | (with_reducible exact uF.refl _)
    | (with_reducible exact uF.none _)
    | (with_reducible refine uF.ite ?_ ?_)
    | (with_reducible refine uF.bind ?_ (fun _ => ?_))
    | exact ih0 _ _ _
    | exact uF.none _
    | refine uF.ite ?_ ?_
    | refine uF.bind ?_ (fun _ => ?_)
theorem spec_CommonPrefix.mono : ∀ a0 a1 k, uF (spec_CommonPrefix.f k a0 a1) (spec_CommonPrefix.f (k + 1) a0 a1) := by
  intro a0 a1 k
  have ih0 := spec_CommonPrefix.mono_l k
  unfold spec_CommonPrefix.f
  repeat' first
      | (with_reducible exact ih0 _ _ _)
      | (with_reducible exact uF.refl _)
      | (with_reducible exact uF.none _)
      | (with_reducible refine uF.ite ?_ ?_)
      | (with_reducible refine uF.bind ?_ (fun _ => ?_))
      | exact ih0 _ _ _
      | exact uF.none _
      | refine uF.ite ?_ ?_
      | refine uF.bind ?_ (fun _ => ?_)
set_option maxHeartbeats 8000000 in
set_option maxRecDepth 100000 in
theorem spec_CommonPrefix.calls (k : Nat) (A0 : Option Addr) (c0 : Nat) (l0 : List (S66)) (A1 : Option Addr) (c1 : Nat) (l1 : List (S66)) (r : Int) (w : World) (hr0 : Kd.C k66 w A0 l0.length l0) (hc0 : l0.length ≤ c0) (hr1 : Kd.C k66 w A1 l1.length l1) (hc1 : l1.length ≤ c1) (h : spec_CommonPrefix.f k l0 l1 = some r) :
    Calls Tryd.prog 12 #[.slice A0 l0.length c0, .slice A1 l1.length c1] w fun e w' => e = .returned (.int .i64 r) ∧ Drawn0 w w' := by
  have hu66 := Tryd.underlying66
  have HR0 := Aside0.mk hr0
  have HC0 := Aside0.mk hc0
  clear hr0 hc0
  have HR1 := Aside0.mk hr1
  have HC1 := Aside0.mk hc1
  clear hr1 hc1
  have H : (spec_CommonPrefix.l0 k l0 l1 0) = some r := h
  clear h
  have H' := Aside0.mk H
  clear H
  go_enter Tryd.func12, Tryd.ntmps12
  go_wp2
  repeat (go_quiet (fail); try go_wp2)
  go_loopg [5] k (fun kq v5 w' => ∃ (x5_1 : Int), v5 = .int .i64 x5_1 ∧ Aside0 (spec_CommonPrefix.l0 kq l0 l1 x5_1 = some r) ∧ Aside0 (kq ≤ k) ∧ Drawn0 w w')
  case atStart => exact ⟨(0), q10, H', ⟨Nat.le_refl _⟩, q33⟩
  case round =>
    clear H'
    try clear c1
    try clear p2
    obtain ⟨x5_1, rfl, HA, HK1, ⟨m1, rfl⟩⟩ := hrel
    cases gk with
    | zero => exact absurd HA.out (by simp [spec_CommonPrefix.l0])
    | succ k1 =>
      have H := HA.out
      clear HA
      simp only [spec_CommonPrefix.l0] at H
      by_cases c3 : x5_1 < (l0.length : Int)
      rotate_left
      · rw [if_neg c3] at H
        have c3b0 : decide (x5_1 < (l0.length : Int)) = false := decide_eq_false c3
        clear c3
        obtain rfl := Option.some.inj H
        go_wp2
        repeat (go_quiet (fail); try go_wp2)
        go_ret
        exact ⟨q10, q33⟩
      rw [if_pos c3] at H
      have c3b0 : decide (x5_1 < (l0.length : Int)) = true := decide_eq_true c3
      clear c3
      by_cases c4 : x5_1 < (l1.length : Int)
      rotate_left
      · rw [if_neg c4] at H
        have c4b0 : decide (x5_1 < (l1.length : Int)) = false := decide_eq_false c4
        clear c4
        obtain rfl := Option.some.inj H
        go_wp2
        repeat (go_quiet (fail); try go_wp2)
        go_ret
        exact ⟨q10, q33⟩
      rw [if_pos c4] at H
      have c4b0 : decide (x5_1 < (l1.length : Int)) = true := decide_eq_true c4
      clear c4
      by_cases c5 : 0 ≤ x5_1
      rotate_left
      · rw [if_neg c5] at H
        exact absurd H (by simp)
      rw [if_pos c5] at H
      have c5b0 : decide (0 ≤ x5_1) = true := decide_eq_true c5
      clear c5
      by_cases c6 : (((rd_T66 l0 x5_1).f0) == ((rd_T66 l1 x5_1).f0) && ((((rd_T66 l0 x5_1).f1.f0) == ((rd_T66 l1 x5_1).f1.f0) && (((rd_T66 l0 x5_1).f1.f1) == ((rd_T66 l1 x5_1).f1.f1) && (((rd_T66 l0 x5_1).f1.f2) == ((rd_T66 l1 x5_1).f1.f2) && (((rd_T66 l0 x5_1).f1.f3) == ((rd_T66 l1 x5_1).f1.f3) && (((rd_T66 l0 x5_1).f1.f4) == ((rd_T66 l1 x5_1).f1.f4) && (((rd_T66 l0 x5_1).f1.f5) == ((rd_T66 l1 x5_1).f1.f5))))))))) = true
      · rw [if_pos c6] at H
        have c6b0 : (((rd_T66 l0 x5_1).f0) == ((rd_T66 l1 x5_1).f0) && ((((rd_T66 l0 x5_1).f1.f0) == ((rd_T66 l1 x5_1).f1.f0) && (((rd_T66 l0 x5_1).f1.f1) == ((rd_T66 l1 x5_1).f1.f1) && (((rd_T66 l0 x5_1).f1.f2) == ((rd_T66 l1 x5_1).f1.f2) && (((rd_T66 l0 x5_1).f1.f3) == ((rd_T66 l1 x5_1).f1.f3) && (((rd_T66 l0 x5_1).f1.f4) == ((rd_T66 l1 x5_1).f1.f4) && (((rd_T66 l0 x5_1).f1.f5) == ((rd_T66 l1 x5_1).f1.f5))))))))) = true := c6
        (try (have c6b1 : decide (((rd_T66 l0 x5_1).f0) = ((rd_T66 l1 x5_1).f0) && ((((rd_T66 l0 x5_1).f1.f0) == ((rd_T66 l1 x5_1).f1.f0) && (((rd_T66 l0 x5_1).f1.f1) == ((rd_T66 l1 x5_1).f1.f1) && (((rd_T66 l0 x5_1).f1.f2) == ((rd_T66 l1 x5_1).f1.f2) && (((rd_T66 l0 x5_1).f1.f3) == ((rd_T66 l1 x5_1).f1.f3) && (((rd_T66 l0 x5_1).f1.f4) == ((rd_T66 l1 x5_1).f1.f4) && (((rd_T66 l0 x5_1).f1.f5) == ((rd_T66 l1 x5_1).f1.f5))))))))) = true := by simpa using c6))
        (try (have c6b2 : (((rd_T66 l0 x5_1).f0) == ((rd_T66 l1 x5_1).f0) && ((((rd_T66 l0 x5_1).f1.f0) == ((rd_T66 l1 x5_1).f1.f0) && (((rd_T66 l0 x5_1).f1.f1) == ((rd_T66 l1 x5_1).f1.f1) && (((rd_T66 l0 x5_1).f1.f2) == ((rd_T66 l1 x5_1).f1.f2) && (((rd_T66 l0 x5_1).f1.f3) == ((rd_T66 l1 x5_1).f1.f3) && (((rd_T66 l0 x5_1).f1.f4) == ((rd_T66 l1 x5_1).f1.f4) && (((rd_T66 l0 x5_1).f1.f5) == ((rd_T66 l1 x5_1).f1.f5))))))))) = true := by simpa using c6))
        clear c6
        have H' := Aside0.mk H
        clear H
        have p413 : 0 ≤ (x5_1 : Int) := of_decide_eq_true q9
        have q413 : x5_1 < (l0.length : Int) := of_decide_eq_true q9
        obtain ⟨ad413, e413, hx413_0, hx413_1, hx413_2, hx413_3, hx413_4, hx413_5, hx413_6⟩ := at_T66 HR0.out x5_1 p413 q413
        cases e413
        replace p413 := eq_true p413
        replace q413 := eq_true q413
        have p414 : 0 ≤ (x5_1 : Int) := of_decide_eq_true q9
        have q414 : x5_1 < (l1.length : Int) := of_decide_eq_true q9
        obtain ⟨ad414, e414, hx414_0, hx414_1, hx414_2, hx414_3, hx414_4, hx414_5, hx414_6⟩ := at_T66 HR1.out x5_1 p414 q414
        cases e414
        replace p414 := eq_true p414
        replace q414 := eq_true q414
        go_wp2
        repeat (go_quiet (fail); try go_wp2)
        go_roundg k1
        case measure => have := HK1.out; omega
        case rel => exact ⟨(wrap64 (x5_1 + 1)), q10, H', ⟨by have := HK1.out; omega⟩, q33⟩
      rw [if_neg c6] at H
      have c6b0 : (((rd_T66 l0 x5_1).f0) == ((rd_T66 l1 x5_1).f0) && ((((rd_T66 l0 x5_1).f1.f0) == ((rd_T66 l1 x5_1).f1.f0) && (((rd_T66 l0 x5_1).f1.f1) == ((rd_T66 l1 x5_1).f1.f1) && (((rd_T66 l0 x5_1).f1.f2) == ((rd_T66 l1 x5_1).f1.f2) && (((rd_T66 l0 x5_1).f1.f3) == ((rd_T66 l1 x5_1).f1.f3) && (((rd_T66 l0 x5_1).f1.f4) == ((rd_T66 l1 x5_1).f1.f4) && (((rd_T66 l0 x5_1).f1.f5) == ((rd_T66 l1 x5_1).f1.f5))))))))) = false := by simpa using c6
      (try (have c6b1 : decide (((rd_T66 l0 x5_1).f0) = ((rd_T66 l1 x5_1).f0) && ((((rd_T66 l0 x5_1).f1.f0) == ((rd_T66 l1 x5_1).f1.f0) && (((rd_T66 l0 x5_1).f1.f1) == ((rd_T66 l1 x5_1).f1.f1) && (((rd_T66 l0 x5_1).f1.f2) == ((rd_T66 l1 x5_1).f1.f2) && (((rd_T66 l0 x5_1).f1.f3) == ((rd_T66 l1 x5_1).f1.f3) && (((rd_T66 l0 x5_1).f1.f4) == ((rd_T66 l1 x5_1).f1.f4) && (((rd_T66 l0 x5_1).f1.f5) == ((rd_T66 l1 x5_1).f1.f5))))))))) = false := by simpa using c6))
      (try (have c6b2 : (((rd_T66 l0 x5_1).f0) == ((rd_T66 l1 x5_1).f0) && ((((rd_T66 l0 x5_1).f1.f0) == ((rd_T66 l1 x5_1).f1.f0) && (((rd_T66 l0 x5_1).f1.f1) == ((rd_T66 l1 x5_1).f1.f1) && (((rd_T66 l0 x5_1).f1.f2) == ((rd_T66 l1 x5_1).f1.f2) && (((rd_T66 l0 x5_1).f1.f3) == ((rd_T66 l1 x5_1).f1.f3) && (((rd_T66 l0 x5_1).f1.f4) == ((rd_T66 l1 x5_1).f1.f4) && (((rd_T66 l0 x5_1).f1.f5) == ((rd_T66 l1 x5_1).f1.f5))))))))) = false := by simpa using c6))
      (try (have c6b3 : ¬ (((rd_T66 l0 x5_1).f0) = ((rd_T66 l1 x5_1).f0) && ((((rd_T66 l0 x5_1).f1.f0) == ((rd_T66 l1 x5_1).f1.f0) && (((rd_T66 l0 x5_1).f1.f1) == ((rd_T66 l1 x5_1).f1.f1) && (((rd_T66 l0 x5_1).f1.f2) == ((rd_T66 l1 x5_1).f1.f2) && (((rd_T66 l0 x5_1).f1.f3) == ((rd_T66 l1 x5_1).f1.f3) && (((rd_T66 l0 x5_1).f1.f4) == ((rd_T66 l1 x5_1).f1.f4) && (((rd_T66 l0 x5_1).f1.f5) == ((rd_T66 l1 x5_1).f1.f5))))))))) := by simpa using c6))
      clear c6
      obtain rfl := Option.some.inj H
      have p413 : 0 ≤ (x5_1 : Int) := of_decide_eq_true q9
      have q413 : x5_1 < (l0.length : Int) := of_decide_eq_true q9
      obtain ⟨ad413, e413, hx413_0, hx413_1, hx413_2, hx413_3, hx413_4, hx413_5, hx413_6⟩ := at_T66 HR0.out x5_1 p413 q413
      cases e413
      replace p413 := eq_true p413
      replace q413 := eq_true q413
      have p414 : 0 ≤ (x5_1 : Int) := of_decide_eq_true q9
      have q414 : x5_1 < (l1.length : Int) := of_decide_eq_true q9
      obtain ⟨ad414, e414, hx414_0, hx414_1, hx414_2, hx414_3, hx414_4, hx414_5, hx414_6⟩ := at_T66 HR1.out x5_1 p414 q414
      cases e414
      replace p414 := eq_true p414
      replace q414 := eq_true q414
      go_wp2
      repeat (go_quiet (fail); try go_wp2)
      go_ret
      exact ⟨q10, q33⟩

/-! ### impl_FirstDifference: function 13 -/
def impl_FirstDifference.l0 : Nat → List Int → List Int → Int → Int → Int → Option (Int)
  | 0, _, _, _, _, _ => none
  | k + 1, x0, x1, x5, x12, x13 => if x13 < x12 then (if 0 ≤ x13 then (if x13 < (x0.length : Int) then (if x13 < (x1.length : Int) then (if (rd x0 x13) = (rd x1 x13) then (impl_FirstDifference.l0 k x0 x1 x5 x12 (wrap64 (x13 + 1))) else (some x13)) else (none)) else (none)) else (none)) else (if (x0.length : Int) = (x1.length : Int) then (some (-1)) else (some x5))
def impl_FirstDifference.f (k : Nat) (l0 : List Int) (l1 : List Int) : Option (Int) := if (l1.length : Int) < (l0.length : Int) then (impl_FirstDifference.l0 k l0 l1 (l1.length : Int) (l1.length : Int) 0) else (impl_FirstDifference.l0 k l0 l1 (l0.length : Int) (l0.length : Int) 0)
theorem impl_FirstDifference.mono_l : ∀ k, (∀ y0 y1 y2 y3 y4, uF (impl_FirstDifference.l0 k y0 y1 y2 y3 y4) (impl_FirstDifference.l0 (k + 1) y0 y1 y2 y3 y4))
  | 0 => fun _ _ _ _ _ r h => by simp [impl_FirstDifference.l0] at h
  | k + 1 => by
    have ih0 := impl_FirstDifference.mono_l k
    intro y0 y1 y2 y3 y4
    unfold impl_FirstDifference.l0
    repeat' first
    | (with_reducible exact ih0 _ _ _ _ _)
    | (with_reducible exact uF.refl _)
    | (with_reducible exact uF.none _)
    | (with_reducible refine uF.ite ?_ ?_)
    | (with_reducible refine uF.bind ?_ (fun _ => ?_))
    | exact ih0 _ _ _ _ _
    | exact uF.none _
    | refine uF.ite ?_ ?_
    | refine uF.bind ?_ (fun _ => ?_)
theorem impl_FirstDifference.mono : ∀ a0 a1 k, uF (impl_FirstDifference.f k a0 a1) (impl_FirstDifference.f (k + 1) a0 a1) := by
  intro a0 a1 k
  have ih0 := impl_FirstDifference.mono_l k
  unfold impl_FirstDifference.f
  repeat' first
      | (with_reducible exact ih0 _ _ _ _ _)
      | (with_reducible exact uF.refl _)
      | (with_reducible exact uF.none _)
      | (with_reducible refine uF.ite ?_ ?_)
      | (with_reducible refine uF.bind ?_ (fun _ => ?_))
      | exact ih0 _ _ _ _ _
      | exact uF.none _
      | refine uF.ite ?_ ?_
      | refine uF.bind ?_ (fun _ => ?_)
set_option maxHeartbeats 8000000 in
set_option maxRecDepth 100000 in
theorem impl_FirstDifference.calls (k : Nat) (A0 : Option Addr) (c0 : Nat) (l0 : List Int) (A1 : Option Addr) (c1 : Nat) (l1 : List Int) (r : Int) (w : World) (hr0 : Kd.C (Kd.int .i64) w A0 l0.length l0) (hc0 : l0.length ≤ c0) (hr1 : Kd.C (Kd.int .i64) w A1 l1.length l1) (hc1 : l1.length ≤ c1) (h : impl_FirstDifference.f k l0 l1 = some r) :
    Calls Tryd.prog 13 #[.slice A0 l0.length c0, .slice A1 l1.length c1] w fun e w' => e = .returned (.int .i64 r) ∧ Below w.heap.size w w' := by
  have HR0 := Aside0.mk hr0
  have HC0 := Aside0.mk hc0
  clear hr0 hc0
  have HR1 := Aside0.mk hr1
  have HC1 := Aside0.mk hc1
  clear hr1 hc1
  have HB := Aside0.mk (Below.refl w.heap.size w)
  have H : (if (l1.length : Int) < (l0.length : Int) then (impl_FirstDifference.l0 k l0 l1 (l1.length : Int) (l1.length : Int) 0) else (impl_FirstDifference.l0 k l0 l1 (l0.length : Int) (l0.length : Int) 0)) = some r := h
  clear h
  by_cases c3 : (l1.length : Int) < (l0.length : Int)
  · rw [if_pos c3] at H
    have c3i := eq_true c3
    have c3b0 : decide ((l1.length : Int) < (l0.length : Int)) = true := decide_eq_true c3
    have c3b1 : decide (l1.length < l0.length) = true := decide_eq_true (Int.ofNat_lt.mp c3)
    clear c3
    have H' := Aside0.mk H
    clear H
    go_enter Tryd.func13, Tryd.ntmps13
    go_wp2
    repeat (go_quiet (fail); try go_wp2)
    go_loopg [13] k (fun kq v13 w' => ∃ (x13_1 : Int), v13 = .int .i64 x13_1 ∧ Aside0 (impl_FirstDifference.l0 kq l0 l1 (l1.length : Int) (l1.length : Int) x13_1 = some r) ∧ Aside0 (kq ≤ k) ∧ Aside0 (Below w.heap.size w w'))
    case atStart => exact ⟨(0), q10, H', ⟨Nat.le_refl _⟩, ⟨q0⟩⟩
    case round =>
      clear H'
      try clear c1
      try clear p2
      try clear c3
      try clear c3b0
      try clear c3b1
      obtain ⟨x13_1, rfl, HA, HK1, HB⟩ := hrel
      cases gk with
      | zero => exact absurd HA.out (by simp [impl_FirstDifference.l0])
      | succ k1 =>
        have H := HA.out
        clear HA
        simp only [impl_FirstDifference.l0] at H
        by_cases c4 : x13_1 < (l1.length : Int)
        rotate_left
        · rw [if_neg c4] at H
          have c4b0 : decide (x13_1 < (l1.length : Int)) = false := decide_eq_false c4
          clear c4
          by_cases c9 : (l0.length : Int) = (l1.length : Int)
          rotate_left
          · rw [if_neg c9] at H
            have c9b0 : ((l0.length : Int) == (l1.length : Int)) = false := beq_eq_false_iff_ne.mpr c9
            have c9b1 : ((l0.length : Int) != (l1.length : Int)) = true := bne_iff_ne.mpr c9
            have c9b2 : (l0.length == l1.length) = false := by first | simpa using c9 | (simp at c9 ⊢; omega)
            obtain rfl := Option.some.inj H
            go_wp2
            repeat (go_quiet (fail); try go_wp2)
            go_ret
            exact ⟨q2, q0⟩
          rw [if_pos c9] at H
          have c9b0 : ((l0.length : Int) == (l1.length : Int)) = true := beq_iff_eq.mpr c9
          have c9b1 : ((l0.length : Int) != (l1.length : Int)) = false := bne_eq_false_iff_eq.mpr c9
          have c9b2 : (l0.length == l1.length) = true := by first | simpa using c9 | (simp at c9 ⊢; omega)
          clear c9
          obtain rfl := Option.some.inj H
          go_wp2
          repeat (go_quiet (fail); try go_wp2)
          go_ret
          exact ⟨q2, q0⟩
        rw [if_pos c4] at H
        have c4b0 : decide (x13_1 < (l1.length : Int)) = true := decide_eq_true c4
        clear c4
        by_cases c5 : 0 ≤ x13_1
        rotate_left
        · rw [if_neg c5] at H
          exact absurd H (by simp)
        rw [if_pos c5] at H
        have c5b0 : decide (0 ≤ x13_1) = true := decide_eq_true c5
        clear c5
        by_cases c6 : x13_1 < (l0.length : Int)
        rotate_left
        · rw [if_neg c6] at H
          exact absurd H (by simp)
        rw [if_pos c6] at H
        have c6b0 : decide (x13_1 < (l0.length : Int)) = true := decide_eq_true c6
        clear c6
        by_cases c7 : x13_1 < (l1.length : Int)
        rotate_left
        · rw [if_neg c7] at H
          exact absurd H (by simp)
        rw [if_pos c7] at H
        have c7b0 : decide (x13_1 < (l1.length : Int)) = true := decide_eq_true c7
        clear c7
        by_cases c8 : (rd l0 x13_1) = (rd l1 x13_1)
        rotate_left
        · rw [if_neg c8] at H
          have c8b0 : ((rd l0 x13_1) == (rd l1 x13_1)) = false := beq_eq_false_iff_ne.mpr c8
          have c8b1 : ((rd l0 x13_1) != (rd l1 x13_1)) = true := bne_iff_ne.mpr c8
          obtain rfl := Option.some.inj H
          have p415 : 0 ≤ (x13_1 : Int) := of_decide_eq_true q9
          have q415 : x13_1 < (l0.length : Int) := of_decide_eq_true q9
          obtain ⟨ad415, e415, hx415_0⟩ := Kd.at_int HR0.out x13_1 p415 q415
          cases e415
          replace hx415_0 := (HB.out.cell (vE w _ hx415_0)).trans hx415_0
          replace p415 := eq_true p415
          replace q415 := eq_true q415
          have p416 : 0 ≤ (x13_1 : Int) := of_decide_eq_true q9
          have q416 : x13_1 < (l1.length : Int) := of_decide_eq_true q9
          obtain ⟨ad416, e416, hx416_0⟩ := Kd.at_int HR1.out x13_1 p416 q416
          cases e416
          replace hx416_0 := (HB.out.cell (vE w _ hx416_0)).trans hx416_0
          replace p416 := eq_true p416
          replace q416 := eq_true q416
          go_wp2
          repeat (go_quiet (fail); try go_wp2)
          go_ret
          exact ⟨q2, q0⟩
        rw [if_pos c8] at H
        have c8b0 : ((rd l0 x13_1) == (rd l1 x13_1)) = true := beq_iff_eq.mpr c8
        have c8b1 : ((rd l0 x13_1) != (rd l1 x13_1)) = false := bne_eq_false_iff_eq.mpr c8
        clear c8
        have H' := Aside0.mk H
        clear H
        have p415 : 0 ≤ (x13_1 : Int) := of_decide_eq_true q9
        have q415 : x13_1 < (l0.length : Int) := of_decide_eq_true q9
        obtain ⟨ad415, e415, hx415_0⟩ := Kd.at_int HR0.out x13_1 p415 q415
        cases e415
        replace hx415_0 := (HB.out.cell (vE w _ hx415_0)).trans hx415_0
        replace p415 := eq_true p415
        replace q415 := eq_true q415
        have p416 : 0 ≤ (x13_1 : Int) := of_decide_eq_true q9
        have q416 : x13_1 < (l1.length : Int) := of_decide_eq_true q9
        obtain ⟨ad416, e416, hx416_0⟩ := Kd.at_int HR1.out x13_1 p416 q416
        cases e416
        replace hx416_0 := (HB.out.cell (vE w _ hx416_0)).trans hx416_0
        replace p416 := eq_true p416
        replace q416 := eq_true q416
        go_wp2
        repeat (go_quiet (fail); try go_wp2)
        go_roundg k1
        case measure => have := HK1.out; omega
        case rel => exact ⟨(wrap64 (x13_1 + 1)), q10, H', ⟨by have := HK1.out; omega⟩, ⟨q0⟩⟩
  rw [if_neg c3] at H
  have c3i := eq_false c3
  have c3b0 : decide ((l1.length : Int) < (l0.length : Int)) = false := decide_eq_false c3
  have c3b1 : decide (l1.length < l0.length) = false := decide_eq_false (fun h => c3 (Int.ofNat_lt.mpr h))
  clear c3
  have H' := Aside0.mk H
  clear H
  go_enter Tryd.func13, Tryd.ntmps13
  go_wp2
  repeat (go_quiet (fail); try go_wp2)
  go_loopg [13] k (fun kq v13 w' => ∃ (x13_1 : Int), v13 = .int .i64 x13_1 ∧ Aside0 (impl_FirstDifference.l0 kq l0 l1 (l0.length : Int) (l0.length : Int) x13_1 = some r) ∧ Aside0 (kq ≤ k) ∧ Aside0 (Below w.heap.size w w'))
  case atStart => exact ⟨(0), q10, H', ⟨Nat.le_refl _⟩, ⟨q0⟩⟩
  case round =>
    clear H'
    try clear c1
    try clear p2
    try clear c3
    try clear c3b0
    try clear c3b1
    try clear c4
    try clear c4b0
    try clear p4
    try clear q4
    try clear hx4
    try clear c5
    try clear c5b0
    try clear c6
    try clear c6b0
    try clear p6
    try clear c7
    try clear c7b0
    try clear c8
    try clear c8b0
    try clear c8b1
    try clear c9
    try clear c9b0
    try clear c9b1
    try clear c9b2
    try clear hx415_0
    try clear hx416_0
    try clear p2
    try clear p415
    try clear p416
    try clear q415
    try clear q416
    obtain ⟨x13_1, rfl, HA, HK1, HB⟩ := hrel
    cases gk with
    | zero => exact absurd HA.out (by simp [impl_FirstDifference.l0])
    | succ k1 =>
      have H := HA.out
      clear HA
      simp only [impl_FirstDifference.l0] at H
      by_cases c10 : x13_1 < (l0.length : Int)
      rotate_left
      · rw [if_neg c10] at H
        have c10b0 : decide (x13_1 < (l0.length : Int)) = false := decide_eq_false c10
        clear c10
        by_cases c15 : (l0.length : Int) = (l1.length : Int)
        rotate_left
        · rw [if_neg c15] at H
          have c15b0 : ((l0.length : Int) == (l1.length : Int)) = false := beq_eq_false_iff_ne.mpr c15
          have c15b1 : ((l0.length : Int) != (l1.length : Int)) = true := bne_iff_ne.mpr c15
          have c15b2 : (l0.length == l1.length) = false := by first | simpa using c15 | (simp at c15 ⊢; omega)
          obtain rfl := Option.some.inj H
          go_wp2
          repeat (go_quiet (fail); try go_wp2)
          go_ret
          exact ⟨q2, q0⟩
        rw [if_pos c15] at H
        have c15b0 : ((l0.length : Int) == (l1.length : Int)) = true := beq_iff_eq.mpr c15
        have c15b1 : ((l0.length : Int) != (l1.length : Int)) = false := bne_eq_false_iff_eq.mpr c15
        have c15b2 : (l0.length == l1.length) = true := by first | simpa using c15 | (simp at c15 ⊢; omega)
        clear c15
        obtain rfl := Option.some.inj H
        go_wp2
        repeat (go_quiet (fail); try go_wp2)
        go_ret
        exact ⟨q2, q0⟩
      rw [if_pos c10] at H
      have c10b0 : decide (x13_1 < (l0.length : Int)) = true := decide_eq_true c10
      clear c10
      by_cases c11 : 0 ≤ x13_1
      rotate_left
      · rw [if_neg c11] at H
        exact absurd H (by simp)
      rw [if_pos c11] at H
      have c11b0 : decide (0 ≤ x13_1) = true := decide_eq_true c11
      clear c11
      by_cases c12 : x13_1 < (l0.length : Int)
      rotate_left
      · rw [if_neg c12] at H
        exact absurd H (by simp)
      rw [if_pos c12] at H
      have c12b0 : decide (x13_1 < (l0.length : Int)) = true := decide_eq_true c12
      clear c12
      by_cases c13 : x13_1 < (l1.length : Int)
      rotate_left
      · rw [if_neg c13] at H
        exact absurd H (by simp)
      rw [if_pos c13] at H
      have c13b0 : decide (x13_1 < (l1.length : Int)) = true := decide_eq_true c13
      clear c13
      by_cases c14 : (rd l0 x13_1) = (rd l1 x13_1)
      rotate_left
      · rw [if_neg c14] at H
        have c14b0 : ((rd l0 x13_1) == (rd l1 x13_1)) = false := beq_eq_false_iff_ne.mpr c14
        have c14b1 : ((rd l0 x13_1) != (rd l1 x13_1)) = true := bne_iff_ne.mpr c14
        obtain rfl := Option.some.inj H
        have p415 : 0 ≤ (x13_1 : Int) := of_decide_eq_true q9
        have q415 : x13_1 < (l0.length : Int) := of_decide_eq_true q9
        obtain ⟨ad415, e415, hx415_0⟩ := Kd.at_int HR0.out x13_1 p415 q415
        cases e415
        replace hx415_0 := (HB.out.cell (vE w _ hx415_0)).trans hx415_0
        replace p415 := eq_true p415
        replace q415 := eq_true q415
        have p416 : 0 ≤ (x13_1 : Int) := of_decide_eq_true q9
        have q416 : x13_1 < (l1.length : Int) := of_decide_eq_true q9
        obtain ⟨ad416, e416, hx416_0⟩ := Kd.at_int HR1.out x13_1 p416 q416
        cases e416
        replace hx416_0 := (HB.out.cell (vE w _ hx416_0)).trans hx416_0
        replace p416 := eq_true p416
        replace q416 := eq_true q416
        go_wp2
        repeat (go_quiet (fail); try go_wp2)
        go_ret
        exact ⟨q2, q0⟩
      rw [if_pos c14] at H
      have c14b0 : ((rd l0 x13_1) == (rd l1 x13_1)) = true := beq_iff_eq.mpr c14
      have c14b1 : ((rd l0 x13_1) != (rd l1 x13_1)) = false := bne_eq_false_iff_eq.mpr c14
      clear c14
      have H' := Aside0.mk H
      clear H
      have p415 : 0 ≤ (x13_1 : Int) := of_decide_eq_true q9
      have q415 : x13_1 < (l0.length : Int) := of_decide_eq_true q9
      obtain ⟨ad415, e415, hx415_0⟩ := Kd.at_int HR0.out x13_1 p415 q415
      cases e415
      replace hx415_0 := (HB.out.cell (vE w _ hx415_0)).trans hx415_0
      replace p415 := eq_true p415
      replace q415 := eq_true q415
      have p416 : 0 ≤ (x13_1 : Int) := of_decide_eq_true q9
      have q416 : x13_1 < (l1.length : Int) := of_decide_eq_true q9
      obtain ⟨ad416, e416, hx416_0⟩ := Kd.at_int HR1.out x13_1 p416 q416
      cases e416
      replace hx416_0 := (HB.out.cell (vE w _ hx416_0)).trans hx416_0
      replace p416 := eq_true p416
      replace q416 := eq_true q416
      go_wp2
      repeat (go_quiet (fail); try go_wp2)
      go_roundg k1
      case measure => have := HK1.out; omega
      case rel => exact ⟨(wrap64 (x13_1 + 1)), q10, H', ⟨by have := HK1.out; omega⟩, ⟨q0⟩⟩

/-! ### spec_FirstDifference: function 14 -/
mutual
def spec_FirstDifference.l0 : Nat → List Int → List Int → Int → Option (Int)
  | 0, _, _, _ => none
  | k + 1, x0, x1, x5 => if x5 < (x0.length : Int) then (spec_FirstDifference.j1 k x0 x1 x5 (decide (x5 < (x1.length : Int)))) else (spec_FirstDifference.j1 k x0 x1 x5 false)
def spec_FirstDifference.j1 : Nat → List Int → List Int → Int → Bool → Option (Int)
  | 0, _, _, _, _ => none
  | k + 1, x0, x1, x5, x15 => if x15 = true then (if 0 ≤ x5 then (if x5 < (x0.length : Int) then (if x5 < (x1.length : Int) then (if (rd x0 x5) = (rd x1 x5) then (spec_FirstDifference.l0 k x0 x1 (wrap64 (x5 + 1))) else (some x5)) else (none)) else (none)) else (none)) else (if (x0.length : Int) = (x1.length : Int) then (some (-1)) else (if (x1.length : Int) < (x0.length : Int) then (some (x1.length : Int)) else (some (x0.length : Int))))
end
def spec_FirstDifference.f (k : Nat) (l0 : List Int) (l1 : List Int) : Option (Int) := spec_FirstDifference.l0 k l0 l1 0
theorem spec_FirstDifference.mono_l : ∀ k, (∀ y0 y1 y2, uF (spec_FirstDifference.l0 k y0 y1 y2) (spec_FirstDifference.l0 (k + 1) y0 y1 y2)) ∧ (∀ y0 y1 y2 y3, uF (spec_FirstDifference.j1 k y0 y1 y2 y3) (spec_FirstDifference.j1 (k + 1) y0 y1 y2 y3))
  | 0 => ⟨fun _ _ _ r h => by simp [spec_FirstDifference.l0] at h, fun _ _ _ _ r h => by simp [spec_FirstDifference.j1] at h⟩
  | k + 1 => by
    obtain ⟨ih0, ih1⟩ := spec_FirstDifference.mono_l k
    refine ⟨?_, ?_⟩
    · intro y0 y1 y2
      unfold spec_FirstDifference.l0
      repeat' first
      | (with_reducible exact ih0 _ _ _)
      | (with_reducible exact ih1 _ _ _ _)
      | (with_reducible exact uF.refl _)
      | (with_reducible exact uF.none _)
      | (with_reducible refine uF.ite ?_ ?_)
      | (with_reducible refine uF.bind ?_ (fun _ => ?_))
      | exact ih0 _ _ _
      | exact ih1 _ _ _ _
      | exact uF.none _
      | refine uF.ite ?_ ?_
      | refine uF.bind ?_ (fun _ => ?_)
    intro y0 y1 y2 y3
    unfold spec_FirstDifference.j1
    repeat' first
    | (with_reducible exact ih0 _ _ _)
    | (with_reducible exact ih1 _ _ _ _)
    | (with_reducible exact uF.refl _)
    | (with_reducible exact uF.none _)
    | (with_reducible refine uF.ite ?_ ?_)
    | (with_reducible refine uF.bind ?_ (fun _ => ?_))
    | exact ih0 _ _ _
    | exact ih1 _ _ _ _
    | exact uF.none _
    | refine uF.ite ?_ ?_
    | refine uF.bind ?_ (fun _ => ?_)
theorem spec_FirstDifference.mono : ∀ a0 a1 k, uF (spec_FirstDifference.f k a0 a1) (spec_FirstDifference.f (k + 1) a0 a1) := by
  intro a0 a1 k
  obtain ⟨ih0, ih1⟩ := spec_FirstDifference.mono_l k
  unfold spec_FirstDifference.f
  repeat' first
      | (with_reducible exact ih0 _ _ _)
      | (with_reducible exact ih1 _ _ _ _)
      | (with_reducible exact uF.refl _)
      | (with_reducible exact uF.none _)
      | (with_reducible refine uF.ite ?_ ?_)
      | (with_reducible refine uF.bind ?_ (fun _ => ?_))
      | exact ih0 _ _ _
      | exact ih1 _ _ _ _
      | exact uF.none _
      | refine uF.ite ?_ ?_
      | refine uF.bind ?_ (fun _ => ?_)
set_option maxHeartbeats 8000000 in
set_option maxRecDepth 100000 in
theorem spec_FirstDifference.calls (k : Nat) (A0 : Option Addr) (c0 : Nat) (l0 : List Int) (A1 : Option Addr) (c1 : Nat) (l1 : List Int) (r : Int) (w : World) (hr0 : Kd.C (Kd.int .i64) w A0 l0.length l0) (hc0 : l0.length ≤ c0) (hr1 : Kd.C (Kd.int .i64) w A1 l1.length l1) (hc1 : l1.length ≤ c1) (h : spec_FirstDifference.f k l0 l1 = some r) :
    Calls Tryd.prog 14 #[.slice A0 l0.length c0, .slice A1 l1.length c1] w fun e w' => e = .returned (.int .i64 r) ∧ Below w.heap.size w w' := by
  have HR0 := Aside0.mk hr0
  have HC0 := Aside0.mk hc0
  clear hr0 hc0
  have HR1 := Aside0.mk hr1
  have HC1 := Aside0.mk hc1
  clear hr1 hc1
  have HB := Aside0.mk (Below.refl w.heap.size w)
  have H : (spec_FirstDifference.l0 k l0 l1 0) = some r := h
  clear h
  have H' := Aside0.mk H
  clear H
  go_enter Tryd.func14, Tryd.ntmps14
  go_wp2
  repeat (go_quiet (fail); try go_wp2)
  go_loopg [5] k (fun kq v5 w' => ∃ (x5_1 : Int), v5 = .int .i64 x5_1 ∧ Aside0 (spec_FirstDifference.l0 kq l0 l1 x5_1 = some r) ∧ Aside0 (kq ≤ k) ∧ Aside0 (Below w.heap.size w w'))
  case atStart => exact ⟨(0), q10, H', ⟨Nat.le_refl _⟩, ⟨q0⟩⟩
  case round =>
    clear H'
    try clear c1
    try clear p2
    obtain ⟨x5_1, rfl, HA, HK1, HB⟩ := hrel
    cases gk with
    | zero => exact absurd HA.out (by simp [spec_FirstDifference.l0])
    | succ k1 =>
      have H := HA.out
      clear HA
      simp only [spec_FirstDifference.l0] at H
      have HC3 := Aside0.mk H
      clear H
      go_upto_region 2 with (fail)
      repeat (go_quiet (fail); go_upto_region 2 with (fail))
      go_cut [15] (fun v15 wc => ∃ (kq : Nat) (x15_2 : Bool), v15 = .bool x15_2 ∧ Aside0 (spec_FirstDifference.j1 kq l0 l1 x5_1 x15_2 = some r) ∧ Aside0 (kq ≤ k1) ∧ Aside0 (Below w.heap.size w wc))
      case first =>
        have H := HC3.out
        clear HC3
        by_cases c4 : x5_1 < (l0.length : Int)
        rotate_left
        · rw [if_neg c4] at H
          have c4b0 : decide (x5_1 < (l0.length : Int)) = false := decide_eq_false c4
          clear c4
          (first | rw [c4b0] | (simp only [uB, uD]; rw [c4b0]) | skip)
          have H' := Aside0.mk H
          clear H
          go_wp2
          repeat (go_quiet (fail); try go_wp2)
          go_meet
          case rel => exact ⟨_, (false), q10, H', ⟨by have := HK1.out; first | omega | exact Nat.le_refl _⟩, ⟨q0⟩⟩
        rw [if_pos c4] at H
        have c4b0 : decide (x5_1 < (l0.length : Int)) = true := decide_eq_true c4
        clear c4
        (first | rw [c4b0] | (simp only [uB, uD]; rw [c4b0]) | skip)
        have H' := Aside0.mk H
        clear H
        go_wp2
        repeat (go_quiet (fail); try go_wp2)
        go_meet
        case rel => exact ⟨_, (decide (x5_1 < (l1.length : Int))), q10, H', ⟨by have := HK1.out; first | omega | exact Nat.le_refl _⟩, ⟨q0⟩⟩
      case rest =>
        clear HC3
        try clear c1
        try clear p2
        try clear c4
        try clear c4b0
        try clear p2
        obtain ⟨kq, x15_2, rfl, HA, HJ2, HB⟩ := hcut
        cases kq with
        | zero => exact absurd HA.out (by simp [spec_FirstDifference.j1])
        | succ kj2 =>
          have H := HA.out
          clear HA
          simp only [spec_FirstDifference.j1] at H
          by_cases c5 : x15_2 = true
          rotate_left
          · replace c5 := Bool.eq_false_iff.mpr c5
            subst c5
            try rw [if_neg (show ¬ (false = true) by decide)] at H
            by_cases c10 : (l0.length : Int) = (l1.length : Int)
            · rw [if_pos c10] at H
              have c10b0 : ((l0.length : Int) == (l1.length : Int)) = true := beq_iff_eq.mpr c10
              have c10b1 : ((l0.length : Int) != (l1.length : Int)) = false := bne_eq_false_iff_eq.mpr c10
              have c10b2 : (l0.length == l1.length) = true := by first | simpa using c10 | (simp at c10 ⊢; omega)
              clear c10
              obtain rfl := Option.some.inj H
              go_wp2
              repeat (go_quiet (fail); try go_wp2)
              go_ret
              exact ⟨q2, q0⟩
            rw [if_neg c10] at H
            have c10b0 : ((l0.length : Int) == (l1.length : Int)) = false := beq_eq_false_iff_ne.mpr c10
            have c10b1 : ((l0.length : Int) != (l1.length : Int)) = true := bne_iff_ne.mpr c10
            have c10b2 : (l0.length == l1.length) = false := by first | simpa using c10 | (simp at c10 ⊢; omega)
            by_cases c11 : (l1.length : Int) < (l0.length : Int)
            · rw [if_pos c11] at H
              have c11i := eq_true c11
              have c11b0 : decide ((l1.length : Int) < (l0.length : Int)) = true := decide_eq_true c11
              have c11b1 : decide (l1.length < l0.length) = true := decide_eq_true (Int.ofNat_lt.mp c11)
              clear c11
              obtain rfl := Option.some.inj H
              go_wp2
              repeat (go_quiet (fail); try go_wp2)
              go_ret
              exact ⟨q2, q0⟩
            rw [if_neg c11] at H
            have c11i := eq_false c11
            have c11b0 : decide ((l1.length : Int) < (l0.length : Int)) = false := decide_eq_false c11
            have c11b1 : decide (l1.length < l0.length) = false := decide_eq_false (fun h => c11 (Int.ofNat_lt.mpr h))
            clear c11
            obtain rfl := Option.some.inj H
            go_wp2
            repeat (go_quiet (fail); try go_wp2)
            go_ret
            exact ⟨q2, q0⟩
          subst c5
          try rw [if_pos rfl] at H
          by_cases c6 : 0 ≤ x5_1
          rotate_left
          · rw [if_neg c6] at H
            exact absurd H (by simp)
          rw [if_pos c6] at H
          have c6b0 : decide (0 ≤ x5_1) = true := decide_eq_true c6
          clear c6
          by_cases c7 : x5_1 < (l0.length : Int)
          rotate_left
          · rw [if_neg c7] at H
            exact absurd H (by simp)
          rw [if_pos c7] at H
          have c7b0 : decide (x5_1 < (l0.length : Int)) = true := decide_eq_true c7
          clear c7
          by_cases c8 : x5_1 < (l1.length : Int)
          rotate_left
          · rw [if_neg c8] at H
            exact absurd H (by simp)
          rw [if_pos c8] at H
          have c8b0 : decide (x5_1 < (l1.length : Int)) = true := decide_eq_true c8
          clear c8
          by_cases c9 : (rd l0 x5_1) = (rd l1 x5_1)
          rotate_left
          · rw [if_neg c9] at H
            have c9b0 : ((rd l0 x5_1) == (rd l1 x5_1)) = false := beq_eq_false_iff_ne.mpr c9
            have c9b1 : ((rd l0 x5_1) != (rd l1 x5_1)) = true := bne_iff_ne.mpr c9
            obtain rfl := Option.some.inj H
            have p417 : 0 ≤ (x5_1 : Int) := of_decide_eq_true q9
            have q417 : x5_1 < (l0.length : Int) := of_decide_eq_true q9
            obtain ⟨ad417, e417, hx417_0⟩ := Kd.at_int HR0.out x5_1 p417 q417
            cases e417
            replace hx417_0 := (HB.out.cell (vE w _ hx417_0)).trans hx417_0
            replace p417 := eq_true p417
            replace q417 := eq_true q417
            have p418 : 0 ≤ (x5_1 : Int) := of_decide_eq_true q9
            have q418 : x5_1 < (l1.length : Int) := of_decide_eq_true q9
            obtain ⟨ad418, e418, hx418_0⟩ := Kd.at_int HR1.out x5_1 p418 q418
            cases e418
            replace hx418_0 := (HB.out.cell (vE w _ hx418_0)).trans hx418_0
            replace p418 := eq_true p418
            replace q418 := eq_true q418
            go_wp2
            repeat (go_quiet (fail); try go_wp2)
            go_ret
            exact ⟨q2, q0⟩
          rw [if_pos c9] at H
          have c9b0 : ((rd l0 x5_1) == (rd l1 x5_1)) = true := beq_iff_eq.mpr c9
          have c9b1 : ((rd l0 x5_1) != (rd l1 x5_1)) = false := bne_eq_false_iff_eq.mpr c9
          clear c9
          have H' := Aside0.mk H
          clear H
          have p417 : 0 ≤ (x5_1 : Int) := of_decide_eq_true q9
          have q417 : x5_1 < (l0.length : Int) := of_decide_eq_true q9
          obtain ⟨ad417, e417, hx417_0⟩ := Kd.at_int HR0.out x5_1 p417 q417
          cases e417
          replace hx417_0 := (HB.out.cell (vE w _ hx417_0)).trans hx417_0
          replace p417 := eq_true p417
          replace q417 := eq_true q417
          have p418 : 0 ≤ (x5_1 : Int) := of_decide_eq_true q9
          have q418 : x5_1 < (l1.length : Int) := of_decide_eq_true q9
          obtain ⟨ad418, e418, hx418_0⟩ := Kd.at_int HR1.out x5_1 p418 q418
          cases e418
          replace hx418_0 := (HB.out.cell (vE w _ hx418_0)).trans hx418_0
          replace p418 := eq_true p418
          replace q418 := eq_true q418
          go_wp2
          repeat (go_quiet (fail); try go_wp2)
          go_roundg kj2
          case measure => have := HK1.out; have := HJ2.out; omega
          case rel => exact ⟨(wrap64 (x5_1 + 1)), q10, H', ⟨by have := HK1.out; have := HJ2.out; omega⟩, ⟨q0⟩⟩

/-! ### spec_DigestOf: function 20 -/
def spec_DigestOf.f (k : Nat) (l0 : List (S66)) (a1 : Int) : Option (Int) := (spec_DigestList.f k l0).bind fun t419 => ((spec_l1In.f a1 0 (wrap64 ((t419.length : Int) - 1))).bind fun t422 => (if t422 = true then (if 0 ≤ a1 then (if a1 < (t419.length : Int) then (some (rd t419 a1)) else (none)) else (none)) else (some (-1))))
theorem spec_DigestOf.mono : ∀ a0 a1 k, uF (spec_DigestOf.f k a0 a1) (spec_DigestOf.f (k + 1) a0 a1) := by
  intro a0 a1 k
  unfold spec_DigestOf.f
  repeat' first
      | (with_reducible exact spec_DigestList.mono _ _)
      | (with_reducible exact uF.refl _)
      | (with_reducible exact uF.none _)
      | (with_reducible refine uF.ite ?_ ?_)
      | (with_reducible refine uF.bind ?_ (fun _ => ?_))
      | exact spec_DigestList.mono _ _
      | exact uF.none _
      | refine uF.ite ?_ ?_
      | refine uF.bind ?_ (fun _ => ?_)
set_option maxHeartbeats 8000000 in
set_option maxRecDepth 100000 in
theorem spec_DigestOf.calls (k : Nat) (A0 : Option Addr) (c0 : Nat) (l0 : List (S66)) (a1 : Int) (r : Int) (w : World) (hr0 : Kd.C k66 w A0 l0.length l0) (hc0 : l0.length ≤ c0) (h : spec_DigestOf.f k l0 a1 = some r) :
    Calls Tryd.prog 20 #[.slice A0 l0.length c0, .int .i64 a1] w fun e w' => e = .returned (.int .i64 r) ∧ Below w.heap.size w w' := by
  have HR0 := Aside0.mk hr0
  have HC0 := Aside0.mk hc0
  clear hr0 hc0
  have HB := Aside0.mk (Below.refl w.heap.size w)
  have H : ((spec_DigestList.f k l0).bind fun t419 => ((spec_l1In.f a1 0 (wrap64 ((t419.length : Int) - 1))).bind fun t422 => (if t422 = true then (if 0 ≤ a1 then (if a1 < (t419.length : Int) then (some (rd t419 a1)) else (none)) else (none)) else (some (-1))))) = some r := h
  clear h
  replace H := Option.bind_eq_some_iff.mp H
  obtain ⟨t419, A30, H⟩ := H
  try dsimp only at H
  have A3 := Aside0.mk A30
  clear A30
  replace H := Option.bind_eq_some_iff.mp H
  obtain ⟨t422, A40, H⟩ := H
  try dsimp only at H
  have A4 := Aside0.mk A40
  clear A40
  go_enter Tryd.func20, Tryd.ntmps20
  go_wp2_with (first | ((with_reducible refine uE (f := 11) rfl ?_); refine uL (some 7) Tryd.func11 #[.slice A0 l0.length c0] ?_; (with_reducible refine (spec_DigestList.calls k _ _ l0 t419 _ ?side1 ?side2 A3.out).mono ?_); (case side1 => exact q14); (case side2 => exact HC0.out); rintro e w10 ⟨v420, rfl, ho0, hb⟩; refine ⟨_, rfl, ?_⟩; have HO421 := Aside0.mk (Kd.uX ho0 (uU q0)); replace HB := uQ HB hb; (try clear hb); (try clear hb2); (try clear hk); (try clear hi); (try clear ho0); obtain ⟨Ao11, co11, eo11⟩ := Kd.R_slice HO421.out; subst eo11; refine ?roundEnd))
  case roundEnd =>
  by_cases c5 : t422 = true
  rotate_left
  · replace c5 := Bool.eq_false_iff.mpr c5
    subst c5
    try rw [if_neg (show ¬ (false = true) by decide)] at H
    obtain rfl := Option.some.inj H
    go_wp2_with (first | ((with_reducible refine uE (f := 48) rfl ?_); refine uL (some 12) Tryd.func48 #[.int .i64 a1, .int .i64 0, .int .i64 (wrap64 ((t419.length : Int) - 1))] ?_; (with_reducible refine (spec_l1In.calls a1 0 (wrap64 ((t419.length : Int) - 1)) false _ A4.out).mono ?_); rintro e w' ⟨rfl, ⟨nd, rfl⟩⟩; refine ⟨_, rfl, ?_⟩))
    go_ret
    exact ⟨q2, q0⟩
  subst c5
  try rw [if_pos rfl] at H
  by_cases c6 : 0 ≤ a1
  rotate_left
  · rw [if_neg c6] at H
    exact absurd H (by simp)
  rw [if_pos c6] at H
  have c6b0 : decide (0 ≤ a1) = true := decide_eq_true c6
  clear c6
  by_cases c7 : a1 < (t419.length : Int)
  rotate_left
  · rw [if_neg c7] at H
    exact absurd H (by simp)
  rw [if_pos c7] at H
  have c7b0 : decide (a1 < (t419.length : Int)) = true := decide_eq_true c7
  clear c7
  obtain rfl := Option.some.inj H
  go_wp2_with (first | ((with_reducible refine uE (f := 48) rfl ?_); refine uL (some 12) Tryd.func48 #[.int .i64 a1, .int .i64 0, .int .i64 (wrap64 ((t419.length : Int) - 1))] ?_; (with_reducible refine (spec_l1In.calls a1 0 (wrap64 ((t419.length : Int) - 1)) true _ A4.out).mono ?_); rintro e w' ⟨rfl, ⟨nd, rfl⟩⟩; refine ⟨_, rfl, ?_⟩; have p423 : 0 ≤ (a1 : Int) := of_decide_eq_true q9; have q423 : a1 < (t419.length : Int) := of_decide_eq_true q9; obtain ⟨ad423, e423, hx423_0⟩ := Kd.at_int (Kd.uM HO421.out).2.2 a1 p423 q423; cases e423; replace p423 := eq_true p423; replace q423 := eq_true q423))
  go_ret
  exact ⟨q2, q0⟩

/-! ### spec_DrawProvesPrefix: function 16 -/
def spec_DrawProvesPrefix.f (k : Nat) (l0 : List Int) : Option ((List (S66)) × Int × Int) := (spec_l1New.f k l0).bind fun bt424 => ((spec_l5Any.f k bt424.1 bt424.2.1 bt424.2.2).bind fun bt428 => ((spec_l1Below.f bt424.1 bt428.2.1 bt428.2.2 (wrap64 ((bt428.1.length : Int) + 2))).bind fun bt433 => ((spec_DigestOf.f k bt428.1 bt433.1).bind fun t436 => ((spec_l1Once.f bt424.1 bt433.2.1 bt433.2.2 4).bind fun bt437 => (if bt437.1 = true then ((spec_l1PickInt.f bt424.1 bt437.2.1 bt437.2.2 (([(-1), 0, 11, wrap64 (t436 + 1)] : List Int))).bind fun bt443 => (some (bt428.1, bt433.1, bt443.1))) else (some (bt428.1, bt433.1, t436)))))))
theorem spec_DrawProvesPrefix.mono : ∀ a0 k, uF (spec_DrawProvesPrefix.f k a0) (spec_DrawProvesPrefix.f (k + 1) a0) := by
  intro a0 k
  unfold spec_DrawProvesPrefix.f
  repeat' first
      | (with_reducible exact spec_DigestOf.mono _ _ _)
      | (with_reducible exact spec_l1New.mono _ _)
      | (with_reducible exact spec_l5Any.mono _ _ _ _)
      | (with_reducible exact uF.refl _)
      | (with_reducible exact uF.none _)
      | (with_reducible refine uF.ite ?_ ?_)
      | (with_reducible refine uF.bind ?_ (fun _ => ?_))
      | exact spec_DigestOf.mono _ _ _
      | exact spec_l1New.mono _ _
      | exact spec_l5Any.mono _ _ _ _
      | exact uF.none _
      | refine uF.ite ?_ ?_
      | refine uF.bind ?_ (fun _ => ?_)
set_option maxHeartbeats 8000000 in
set_option maxRecDepth 100000 in
theorem spec_DrawProvesPrefix.calls (k : Nat) (A0 : Option Addr) (c0 : Nat) (l0 : List Int) (r1 : List (S66)) (r2 : Int) (r3 : Int) (w : World) (hr0 : Kd.C (Kd.int .u8) w A0 l0.length l0) (hc0 : l0.length ≤ c0) (h : spec_DrawProvesPrefix.f k l0 = some (r1, r2, r3)) :
    Calls Tryd.prog 16 #[.slice A0 l0.length c0] w fun e w' => ∃ v0_ : Value, e = .returned (.tuple #[v0_, .int .i64 r2, .int .i64 r3]) ∧ Kd.R k66 66 w' w.heap.size (fun _ => True) v0_ r1 ∧ Below w.heap.size w w' := by
  have HR0 := Aside0.mk hr0
  have HC0 := Aside0.mk hc0
  clear hr0 hc0
  have HB := Aside0.mk (Below.refl w.heap.size w)
  have H : ((spec_l1New.f k l0).bind fun bt424 => ((spec_l5Any.f k bt424.1 bt424.2.1 bt424.2.2).bind fun bt428 => ((spec_l1Below.f bt424.1 bt428.2.1 bt428.2.2 (wrap64 ((bt428.1.length : Int) + 2))).bind fun bt433 => ((spec_DigestOf.f k bt428.1 bt433.1).bind fun t436 => ((spec_l1Once.f bt424.1 bt433.2.1 bt433.2.2 4).bind fun bt437 => (if bt437.1 = true then ((spec_l1PickInt.f bt424.1 bt437.2.1 bt437.2.2 (([(-1), 0, 11, wrap64 (t436 + 1)] : List Int))).bind fun bt443 => (some (bt428.1, bt433.1, bt443.1))) else (some (bt428.1, bt433.1, t436)))))))) = some (r1, r2, r3) := h
  clear h
  replace H := Option.bind_eq_some_iff.mp H
  obtain ⟨⟨t424, t425, t426⟩, A20, H⟩ := H
  try dsimp only at H
  have A2 := Aside0.mk A20
  clear A20
  replace H := Option.bind_eq_some_iff.mp H
  obtain ⟨⟨t428, t431, t432⟩, A30, H⟩ := H
  try dsimp only at H
  have A3 := Aside0.mk A30
  clear A30
  replace H := Option.bind_eq_some_iff.mp H
  obtain ⟨⟨t433, t434, t435⟩, A40, H⟩ := H
  try dsimp only at H
  have A4 := Aside0.mk A40
  clear A40
  replace H := Option.bind_eq_some_iff.mp H
  obtain ⟨t436, A50, H⟩ := H
  try dsimp only at H
  have A5 := Aside0.mk A50
  clear A50
  replace H := Option.bind_eq_some_iff.mp H
  obtain ⟨⟨t437, t438, t439⟩, A60, H⟩ := H
  try dsimp only at H
  have A6 := Aside0.mk A60
  clear A60
  by_cases c7 : t437 = true
  rotate_left
  · replace c7 := Bool.eq_false_iff.mpr c7
    subst c7
    try rw [if_neg (show ¬ (false = true) by decide)] at H
    simp only [Option.some.injEq, Prod.mk.injEq] at H
    obtain ⟨rfl, rfl, rfl⟩ := H
    go_enter Tryd.func16, Tryd.ntmps16
    go_wp2_with (first | ((with_reducible refine uE (f := 50) rfl ?_); refine uL (some 10) Tryd.func50 #[.slice A0 l0.length c0] ?_; (with_reducible refine (spec_l1New.calls k _ _ l0 t424 t425 t426 w _ ?side1 ?side2 ?side3 A2.out).mono ?_); (case side1 => exact q0); (case side2 => exact HR0.out); (case side3 => exact HC0.out); rintro e w19 ⟨g427, rfl, hi, hb, hb2⟩; refine ⟨_, rfl, ?_⟩; have HI427 := Aside0.mk (hi); replace HB := Aside0.mk (hb); (try clear hb); (try clear hb2); (try clear hk); (try clear hi)) | ((with_reducible refine uE (f := 51) rfl ?_); refine uL (some 12) Tryd.func51 #[.pointer (some ⟨g427, 0, none⟩)] ?_; (with_reducible refine (spec_l5Any.calls k g427 t424 t425 t426 t428 t431 t432 w _ ?side1 ?side2 A3.out).mono ?_); (case side1 => exact q20); (case side2 => exact q18); rintro e w20 ⟨v429, rfl, ho0, hi, hb, hk⟩; refine ⟨_, rfl, ?_⟩; have HO430 := Aside0.mk (Kd.uX ho0 (uU q18)); replace HB := Aside0.mk (hb); replace HI427 := Aside0.mk (hi); (try clear hb); (try clear hb2); (try clear hk); (try clear hi); (try clear ho0); obtain ⟨Ao21, co21, eo21⟩ := Kd.R_slice HO430.out; subst eo21) | ((with_reducible refine uE (f := 52) rfl ?_); refine uL (some 17) Tryd.func52 #[.pointer (some ⟨g427, 0, none⟩), .int .i64 (wrap64 ((t428.length : Int) + 2))] ?_; (with_reducible refine (spec_l1Below.calls g427 t424 t431 t432 (wrap64 ((t428.length : Int) + 2)) t433 t434 t435 w _ ?side1 ?side2 A4.out).mono ?_); (case side1 => exact q20); (case side2 => exact q18); rintro e w22 ⟨rfl, hi, hb, hk⟩; refine ⟨_, rfl, ?_⟩; replace HO430 := Aside0.mk (Kd.uV (Kd.R_keep (IsS110.apart (show IsS110 w _ g427 t424 t431 t432 from by repeat (first | (with_reducible first | exact HI427.out | apply IsS110.alloc | apply IsS110.drewN | apply IsS110.drew | apply IsS110.set_1 | apply IsS110.set_2) | exact HI427.out)) (rSR HO430.out) (by decide)) hk (fun _ h => h.2)) (fun _ h => h.1)); replace HB := Aside0.mk (hb); replace HI427 := Aside0.mk (hi); (try clear hb); (try clear hb2); (try clear hk); (try clear hi)) | ((with_reducible refine uE (f := 20) rfl ?_); refine uL (some 20) Tryd.func20 #[.slice Ao21 t428.length co21, .int .i64 t433] ?_; (with_reducible refine (spec_DigestOf.calls k _ _ t428 t433 t436 _ ?side1 ?side2 A5.out).mono ?_); (case side1 => repeat (first | exact (Kd.uM HO430.out).2.2 | (with_reducible refine Kd.C_alloc ?_ _) | (with_reducible refine Kd.C_drewN ?_ _) | (with_reducible refine Kd.C_drew ?_))); (case side2 => exact (Kd.uM HO430.out).2.1); rintro e w23 ⟨rfl, hb⟩; refine ⟨_, rfl, ?_⟩; replace HO430 := Kd.tR HO430 hb; replace HI427 := Aside0.mk (IsS110.below q20 hb); replace HB := tBel1 HB hb; (try clear hb); (try clear hb2); (try clear hk); (try clear hi)) | ((with_reducible refine uE (f := 53) rfl ?_); refine uL (some 22) Tryd.func53 #[.pointer (some ⟨g427, 0, none⟩), .int .i64 4] ?_; (with_reducible refine (spec_l1Once.calls g427 t424 t434 t435 4 false t438 t439 w _ ?side1 ?side2 A6.out).mono ?_); (case side1 => exact q20); (case side2 => exact q18); rintro e w24 ⟨rfl, hi, hb, hk⟩; refine ⟨_, rfl, ?_⟩; replace HO430 := Aside0.mk (Kd.uV (Kd.R_keep (IsS110.apart (show IsS110 w _ g427 t424 t434 t435 from by repeat (first | (with_reducible first | exact HI427.out | apply IsS110.alloc | apply IsS110.drewN | apply IsS110.drew | apply IsS110.set_1 | apply IsS110.set_2) | exact HI427.out)) (rSR HO430.out) (by decide)) hk (fun _ h => h.2)) (fun _ h => h.1)); replace HB := Aside0.mk (hb); replace HI427 := Aside0.mk (hi); (try clear hb); (try clear hb2); (try clear hk); (try clear hi)))
    go_ret3
    exact ⟨_, q2, by (with_reducible repeat (first | apply Kd.uT | apply Kd.uS | apply Kd.uW)); exact HO430.out, q18⟩
  subst c7
  try rw [if_pos rfl] at H
  obtain ⟨y440, hy440⟩ : ∃ y_ : List Int, y_ = (([(-1), 0, 11, wrap64 (t436 + 1)] : List Int)) := ⟨_, rfl⟩
  replace H : ((spec_l1PickInt.f t424 t438 t439 y440).bind fun bt443 => (some (t428, t433, bt443.1))) = some (r1, r2, r3) := by first | (rw [hy440]; with_reducible exact H) | (have H2_ := (Option.bind_some _ _).symm.trans H; rw [hy440]; with_reducible exact H2_) | (have H2_ := (Option.bind_some _ _).symm.trans H; with_reducible exact H2_) | with_reducible exact H | (rw [hy440]; exact H) | exact H | rfl
  have Ny440 := Aside0.mk hy440
  clear hy440
  replace H := Option.bind_eq_some_iff.mp H
  obtain ⟨⟨t443, t444, t445⟩, A80, H⟩ := H
  try dsimp only at H
  have A8 := Aside0.mk A80
  clear A80
  simp only [Option.some.injEq, Prod.mk.injEq] at H
  obtain ⟨rfl, rfl, rfl⟩ := H
  go_enter Tryd.func16, Tryd.ntmps16
  go_wp2_with (first | ((with_reducible refine uE (f := 50) rfl ?_); refine uL (some 10) Tryd.func50 #[.slice A0 l0.length c0] ?_; (with_reducible refine (spec_l1New.calls k _ _ l0 t424 t425 t426 w _ ?side1 ?side2 ?side3 A2.out).mono ?_); (case side1 => exact q0); (case side2 => exact HR0.out); (case side3 => exact HC0.out); rintro e w9 ⟨g427, rfl, hi, hb, hb2⟩; refine ⟨_, rfl, ?_⟩; have HI427 := Aside0.mk (hi); replace HB := Aside0.mk (hb); (try clear hb); (try clear hb2); (try clear hk); (try clear hi)) | ((with_reducible refine uE (f := 51) rfl ?_); refine uL (some 12) Tryd.func51 #[.pointer (some ⟨g427, 0, none⟩)] ?_; (with_reducible refine (spec_l5Any.calls k g427 t424 t425 t426 t428 t431 t432 w _ ?side1 ?side2 A3.out).mono ?_); (case side1 => exact q20); (case side2 => exact q18); rintro e w10 ⟨v429, rfl, ho0, hi, hb, hk⟩; refine ⟨_, rfl, ?_⟩; have HO430 := Aside0.mk (Kd.uX ho0 (uU q18)); replace HB := Aside0.mk (hb); replace HI427 := Aside0.mk (hi); (try clear hb); (try clear hb2); (try clear hk); (try clear hi); (try clear ho0); obtain ⟨Ao11, co11, eo11⟩ := Kd.R_slice HO430.out; subst eo11) | ((with_reducible refine uE (f := 52) rfl ?_); refine uL (some 17) Tryd.func52 #[.pointer (some ⟨g427, 0, none⟩), .int .i64 (wrap64 ((t428.length : Int) + 2))] ?_; (with_reducible refine (spec_l1Below.calls g427 t424 t431 t432 (wrap64 ((t428.length : Int) + 2)) t433 t434 t435 w _ ?side1 ?side2 A4.out).mono ?_); (case side1 => exact q20); (case side2 => exact q18); rintro e w12 ⟨rfl, hi, hb, hk⟩; refine ⟨_, rfl, ?_⟩; replace HO430 := Aside0.mk (Kd.uV (Kd.R_keep (IsS110.apart (show IsS110 w _ g427 t424 t431 t432 from by repeat (first | (with_reducible first | exact HI427.out | apply IsS110.alloc | apply IsS110.drewN | apply IsS110.drew | apply IsS110.set_1 | apply IsS110.set_2) | exact HI427.out)) (rSR HO430.out) (by decide)) hk (fun _ h => h.2)) (fun _ h => h.1)); replace HB := Aside0.mk (hb); replace HI427 := Aside0.mk (hi); (try clear hb); (try clear hb2); (try clear hk); (try clear hi)) | ((with_reducible refine uE (f := 20) rfl ?_); refine uL (some 20) Tryd.func20 #[.slice Ao11 t428.length co11, .int .i64 t433] ?_; (with_reducible refine (spec_DigestOf.calls k _ _ t428 t433 t436 _ ?side1 ?side2 A5.out).mono ?_); (case side1 => repeat (first | exact (Kd.uM HO430.out).2.2 | (with_reducible refine Kd.C_alloc ?_ _) | (with_reducible refine Kd.C_drewN ?_ _) | (with_reducible refine Kd.C_drew ?_))); (case side2 => exact (Kd.uM HO430.out).2.1); rintro e w13 ⟨rfl, hb⟩; refine ⟨_, rfl, ?_⟩; replace HO430 := Kd.tR HO430 hb; replace HI427 := Aside0.mk (IsS110.below q20 hb); replace HB := tBel1 HB hb; (try clear hb); (try clear hb2); (try clear hk); (try clear hi)) | ((with_reducible refine uE (f := 53) rfl ?_); refine uL (some 22) Tryd.func53 #[.pointer (some ⟨g427, 0, none⟩), .int .i64 4] ?_; (with_reducible refine (spec_l1Once.calls g427 t424 t434 t435 4 true t438 t439 w _ ?side1 ?side2 A6.out).mono ?_); (case side1 => exact q20); (case side2 => exact q18); rintro e w14 ⟨rfl, hi, hb, hk⟩; refine ⟨_, rfl, ?_⟩; replace HO430 := Aside0.mk (Kd.uV (Kd.R_keep (IsS110.apart (show IsS110 w _ g427 t424 t434 t435 from by repeat (first | (with_reducible first | exact HI427.out | apply IsS110.alloc | apply IsS110.drewN | apply IsS110.drew | apply IsS110.set_1 | apply IsS110.set_2) | exact HI427.out)) (rSR HO430.out) (by decide)) hk (fun _ h => h.2)) (fun _ h => h.1)); replace HB := Aside0.mk (hb); replace HI427 := Aside0.mk (hi); (try clear hb); (try clear hb2); (try clear hk); (try clear hi)) | ((with_reducible refine uR (N := 26) rfl ?_); refine Kd.R_lit (Kd.int .i64) _ 3 ?hg (N := 26) ?hd (xs := ([(-1), 0, 11, wrap64 (t436 + 1)] : List Int)) (inner := [.int .i64 (-1), .int .i64 0, .int .i64 11, .int .i64 (wrap64 (t436 + 1))]) (ok := fun _ => True) (okp := fun _ => True) ?hr ?hp (fun _ hk => hk) trivial (Below.refl _ _) (Nat.le_refl _) (by simp) ?_; (case hd => rfl); (case hg => rfl); (case hr => first | (go_simp; done) | (go_simp; rfl)); (case hp => exact (Reps.one (show Kd.M (Kd.int .i64) _ _ _ (-1) [.int .i64 (-1)] from rfl) (Reps.one (show Kd.M (Kd.int .i64) _ _ _ 0 [.int .i64 0] from rfl) (Reps.one (show Kd.M (Kd.int .i64) _ _ _ 11 [.int .i64 11] from rfl) (Reps.one (show Kd.M (Kd.int .i64) _ _ _ (wrap64 (t436 + 1)) [.int .i64 (wrap64 (t436 + 1))] from rfl) (Reps.none _ _)))))); intro v441 w15 ho16 hb hg_ hnew_; clear hg_ hnew_; (first | rw [← Ny440.out] at ho16 | (simp only [Int.reduceToNat] at ho16; rw [← Ny440.out] at ho16)); have HO442 := Aside0.mk (Kd.uX ho16 (uU q18)); replace HO430 := Kd.tR HO430 hb; replace HI427 := Aside0.mk (IsS110.below q20 hb); replace HB := tBel1 HB hb; clear hb ho16; obtain ⟨Ao17, co17, eo17⟩ := Kd.R_slice HO442.out; subst eo17) | ((with_reducible refine uE (f := 54) rfl ?_); refine uL (some 27) Tryd.func54 #[.pointer (some ⟨g427, 0, none⟩), .slice Ao17 y440.length co17] ?_; (with_reducible refine (spec_l1PickInt.calls g427 t424 t438 t439 _ _ y440 t443 t444 t445 w _ ?side1 ?side2 ?side3 ?side4 ?side5 A8.out).mono ?_); (case side1 => exact q20); (case side2 => exact q18); (case side3 => repeat (first | exact (Kd.uM HO442.out).2.2 | (with_reducible refine Kd.C_alloc ?_ _) | (with_reducible refine Kd.C_drewN ?_ _) | (with_reducible refine Kd.C_drew ?_))); (case side4 => exact (Kd.uM HO442.out).2.1); (case side5 => exact far_slice (IsS110.own_ne HI427.out HO442.out (by decide))); rintro e w18 ⟨rfl, hi, hb, hk⟩; refine ⟨_, rfl, ?_⟩; replace HO430 := Aside0.mk (Kd.uV (Kd.R_keep (IsS110.apart (show IsS110 w _ g427 t424 t438 t439 from by repeat (first | (with_reducible first | exact HI427.out | apply IsS110.alloc | apply IsS110.drewN | apply IsS110.drew | apply IsS110.set_1 | apply IsS110.set_2) | exact HI427.out)) (rSR HO430.out) (by decide)) hk (fun _ h => h.2)) (fun _ h => h.1)); replace HO442 := Aside0.mk (Kd.uV (Kd.R_keep (IsS110.apart (show IsS110 w _ g427 t424 t438 t439 from by repeat (first | (with_reducible first | exact HI427.out | apply IsS110.alloc | apply IsS110.drewN | apply IsS110.drew | apply IsS110.set_1 | apply IsS110.set_2) | exact HI427.out)) (rSR HO442.out) (by decide)) hk (fun _ h => h.2)) (fun _ h => h.1)); replace HB := Aside0.mk (hb); replace HI427 := Aside0.mk (hi); (try clear hb); (try clear hb2); (try clear hk); (try clear hi)))
  go_ret3
  exact ⟨_, q2, by (with_reducible repeat (first | apply Kd.uT | apply Kd.uS | apply Kd.uW)); exact HO430.out, q18⟩

end Go.Proofs.YtcikahnmiiichaaDoor.G
