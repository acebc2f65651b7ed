/- Go functions as Lean functions, and the proof that the code comes to them: written by a program of this session out of the translation. -/
import Derived.Test.YtcikahnmiiichaaDoorG0
namespace Go.Proofs.YtcikahnmiiichaaDoor.G
open List renaming setIfInBounds_toArray → uY, set_cons_zero → uZ, set_cons_succ → vA
open Go.World renaming block_lt_of_cell? → vE
open Go.Proofs.YtcikahnmiiichaaDoor.Given
open Go.RowKit Go.Proofs.YtcikahnmiiichaaDoorW.PrintWords Go.Proofs.YtcikahnmiiichaaDoorW.PrintLast Go.Proofs.YtcikahnmiiichaaDoorW.PrintMore
attribute [local go_sem] max2_int min2_int max_two min_two max_three min_three max_four min_four   -- for this text's walks alone
set_option linter.unusedVariables false
set_option linter.unusedSimpArgs false

/-! ### laws_sameInts: function 10 -/
def laws_sameInts.l0 : Nat → List Int → List Int → Int → Option (Bool)
  | 0, _, _, _ => none
  | k + 1, x0, x1, x5 => if x5 < (x0.length : Int) then (if 0 ≤ x5 then (if x5 < (x1.length : Int) then (if (rd x0 x5) = (rd x1 x5) then (laws_sameInts.l0 k x0 x1 (wrap64 (x5 + 1))) else (some false)) else (none)) else (none)) else (some true)
def laws_sameInts.f (k : Nat) (l0 : List Int) (l1 : List Int) : Option (Bool) := if (l0.length : Int) = (l1.length : Int) then (laws_sameInts.l0 k l0 l1 0) else (some false)
theorem laws_sameInts.mono_l : ∀ k, (∀ y0 y1 y2, uF (laws_sameInts.l0 k y0 y1 y2) (laws_sameInts.l0 (k + 1) y0 y1 y2))
  | 0 => fun _ _ _ r h => by simp [laws_sameInts.l0] at h
  | k + 1 => by
    have ih0 := laws_sameInts.mono_l k
    intro y0 y1 y2
    unfold laws_sameInts.l0
    repeat' first
    | (with_reducible exact ih0 _ _ _)
    | (with_reducible exact uF.refl _)
    | (with_reducible exact uF.none _)
    | (with_reducible refine uF.ite ?_ ?_)
    | (with_reducible refine uF.bind ?_ (fun _ => ?_))
    | exact ih0 _ _ _
    | exact uF.none _
    | refine uF.ite ?_ ?_
    | refine uF.bind ?_ (fun _ => ?_)
theorem laws_sameInts.mono : ∀ a0 a1 k, uF (laws_sameInts.f k a0 a1) (laws_sameInts.f (k + 1) a0 a1) := by
  intro a0 a1 k
  have ih0 := laws_sameInts.mono_l k
  unfold laws_sameInts.f
  repeat' first
      | (with_reducible exact ih0 _ _ _)
      | (with_reducible exact uF.refl _)
      | (with_reducible exact uF.none _)
      | (with_reducible refine uF.ite ?_ ?_)
      | (with_reducible refine uF.bind ?_ (fun _ => ?_))
      | exact ih0 _ _ _
      | exact uF.none _
      | refine uF.ite ?_ ?_
      | refine uF.bind ?_ (fun _ => ?_)
set_option maxHeartbeats 8000000 in
set_option maxRecDepth 100000 in
theorem laws_sameInts.calls (k : Nat) (A0 : Option Addr) (c0 : Nat) (l0 : List Int) (A1 : Option Addr) (c1 : Nat) (l1 : List Int) (r : Bool) (w : World) (hr0 : Kd.C (Kd.int .i64) w A0 l0.length l0) (hc0 : l0.length ≤ c0) (hr1 : Kd.C (Kd.int .i64) w A1 l1.length l1) (hc1 : l1.length ≤ c1) (h : laws_sameInts.f k l0 l1 = some r) :
    Calls Tryd.prog 10 #[.slice A0 l0.length c0, .slice A1 l1.length c1] w fun e w' => e = .returned (.bool r) ∧ Drawn0 w w' := by
  have HR0 := Aside0.mk hr0
  have HC0 := Aside0.mk hc0
  clear hr0 hc0
  have HR1 := Aside0.mk hr1
  have HC1 := Aside0.mk hc1
  clear hr1 hc1
  have H : (if (l0.length : Int) = (l1.length : Int) then (laws_sameInts.l0 k l0 l1 0) else (some false)) = some r := h
  clear h
  by_cases c3 : (l0.length : Int) = (l1.length : Int)
  rotate_left
  · rw [if_neg c3] at H
    have c3b0 : ((l0.length : Int) == (l1.length : Int)) = false := beq_eq_false_iff_ne.mpr c3
    have c3b1 : ((l0.length : Int) != (l1.length : Int)) = true := bne_iff_ne.mpr c3
    have c3b2 : (l0.length == l1.length) = false := by first | simpa using c3 | (simp at c3 ⊢; omega)
    obtain rfl := Option.some.inj H
    go_enter Tryd.func10, Tryd.ntmps10
    go_wp2
    repeat (go_quiet (fail); try go_wp2)
    go_ret
    exact ⟨q10, q33⟩
  rw [if_pos c3] at H
  have c3b0 : ((l0.length : Int) == (l1.length : Int)) = true := beq_iff_eq.mpr c3
  have c3b1 : ((l0.length : Int) != (l1.length : Int)) = false := bne_eq_false_iff_eq.mpr c3
  have c3b2 : (l0.length == l1.length) = true := by first | simpa using c3 | (simp at c3 ⊢; omega)
  clear c3
  have H' := Aside0.mk H
  clear H
  go_enter Tryd.func10, Tryd.ntmps10
  go_wp2
  repeat (go_quiet (fail); try go_wp2)
  go_loopg [5] k (fun kq v5 w' => ∃ (x5_1 : Int), v5 = .int .i64 x5_1 ∧ Aside0 (laws_sameInts.l0 kq l0 l1 x5_1 = some r) ∧ Aside0 (kq ≤ k) ∧ Drawn0 w w')
  case atStart => exact ⟨(0), q10, H', ⟨Nat.le_refl _⟩, q33⟩
  case round =>
    clear H'
    try clear c1
    try clear p2
    try clear c3
    try clear c3b0
    try clear c3b1
    try clear c3b2
    obtain ⟨x5_1, rfl, HA, HK1, ⟨m1, rfl⟩⟩ := hrel
    cases gk with
    | zero => exact absurd HA.out (by simp [laws_sameInts.l0])
    | succ k1 =>
      have H := HA.out
      clear HA
      simp only [laws_sameInts.l0] at H
      by_cases c4 : x5_1 < (l0.length : Int)
      rotate_left
      · rw [if_neg c4] at H
        have c4b0 : decide (x5_1 < (l0.length : Int)) = false := decide_eq_false c4
        clear c4
        obtain rfl := Option.some.inj H
        go_wp2
        repeat (go_quiet (fail); try go_wp2)
        go_ret
        exact ⟨q10, q33⟩
      rw [if_pos c4] at H
      have c4b0 : decide (x5_1 < (l0.length : Int)) = true := decide_eq_true c4
      clear c4
      by_cases c5 : 0 ≤ x5_1
      rotate_left
      · rw [if_neg c5] at H
        exact absurd H (by simp)
      rw [if_pos c5] at H
      have c5b0 : decide (0 ≤ x5_1) = true := decide_eq_true c5
      clear c5
      by_cases c6 : x5_1 < (l1.length : Int)
      rotate_left
      · rw [if_neg c6] at H
        exact absurd H (by simp)
      rw [if_pos c6] at H
      have c6b0 : decide (x5_1 < (l1.length : Int)) = true := decide_eq_true c6
      clear c6
      by_cases c7 : (rd l0 x5_1) = (rd l1 x5_1)
      rotate_left
      · rw [if_neg c7] at H
        have c7b0 : ((rd l0 x5_1) == (rd l1 x5_1)) = false := beq_eq_false_iff_ne.mpr c7
        have c7b1 : ((rd l0 x5_1) != (rd l1 x5_1)) = true := bne_iff_ne.mpr c7
        obtain rfl := Option.some.inj H
        have p364 : 0 ≤ (x5_1 : Int) := of_decide_eq_true q9
        have q364 : x5_1 < (l0.length : Int) := of_decide_eq_true q9
        obtain ⟨ad364, e364, hx364_0⟩ := Kd.at_int HR0.out x5_1 p364 q364
        cases e364
        replace p364 := eq_true p364
        replace q364 := eq_true q364
        have p365 : 0 ≤ (x5_1 : Int) := of_decide_eq_true q9
        have q365 : x5_1 < (l1.length : Int) := of_decide_eq_true q9
        obtain ⟨ad365, e365, hx365_0⟩ := Kd.at_int HR1.out x5_1 p365 q365
        cases e365
        replace p365 := eq_true p365
        replace q365 := eq_true q365
        go_wp2
        repeat (go_quiet (fail); try go_wp2)
        go_ret
        exact ⟨q10, q33⟩
      rw [if_pos c7] at H
      have c7b0 : ((rd l0 x5_1) == (rd l1 x5_1)) = true := beq_iff_eq.mpr c7
      have c7b1 : ((rd l0 x5_1) != (rd l1 x5_1)) = false := bne_eq_false_iff_eq.mpr c7
      clear c7
      have H' := Aside0.mk H
      clear H
      have p364 : 0 ≤ (x5_1 : Int) := of_decide_eq_true q9
      have q364 : x5_1 < (l0.length : Int) := of_decide_eq_true q9
      obtain ⟨ad364, e364, hx364_0⟩ := Kd.at_int HR0.out x5_1 p364 q364
      cases e364
      replace p364 := eq_true p364
      replace q364 := eq_true q364
      have p365 : 0 ≤ (x5_1 : Int) := of_decide_eq_true q9
      have q365 : x5_1 < (l1.length : Int) := of_decide_eq_true q9
      obtain ⟨ad365, e365, hx365_0⟩ := Kd.at_int HR1.out x5_1 p365 q365
      cases e365
      replace p365 := eq_true p365
      replace q365 := eq_true q365
      go_wp2
      repeat (go_quiet (fail); try go_wp2)
      go_roundg k1
      case measure => have := HK1.out; omega
      case rel => exact ⟨(wrap64 (x5_1 + 1)), q10, H', ⟨by have := HK1.out; omega⟩, q33⟩

/-! ### spec_l1In: function 48 -/
def spec_l1In.f (a0 : Int) (a1 : Int) (a2 : Int) : Option (Bool) := if a0 ≥ a1 then (some (decide (a0 ≤ a2))) else (some false)
set_option maxHeartbeats 8000000 in
set_option maxRecDepth 100000 in
theorem spec_l1In.calls (a0 : Int) (a1 : Int) (a2 : Int) (r : Bool) (w : World) (h : spec_l1In.f a0 a1 a2 = some r) :
    Calls Tryd.prog 48 #[.int .i64 a0, .int .i64 a1, .int .i64 a2] w fun e w' => e = .returned (.bool r) ∧ Drawn0 w w' := by
  have H : (if a0 ≥ a1 then (some (decide (a0 ≤ a2))) else (some false)) = some r := h
  clear h
  by_cases c4 : a0 ≥ a1
  · rw [if_pos c4] at H
    have c4b0 : decide (a1 ≤ a0) = true := decide_eq_true c4
    clear c4
    obtain rfl := Option.some.inj H
    go_enter Tryd.func48, Tryd.ntmps48
    go_wp2
    go_ret
    exact ⟨q10, q33⟩
  rw [if_neg c4] at H
  have c4b0 : decide (a1 ≤ a0) = false := decide_eq_false c4
  clear c4
  obtain rfl := Option.some.inj H
  go_enter Tryd.func48, Tryd.ntmps48
  go_wp2
  go_ret
  exact ⟨q10, q33⟩

/-! ### spec_IsValidOp: function 49 -/
def spec_IsValidOp.f (a0_0 : Int) (a0_1 : Int) (a0_2 : Int) (a0_3 : Int) (a0_4 : Int) (a0_5 : Int) : Option (Bool) := (spec_l1In.f a0_0 0 2).bind fun t367 => (if t367 = true then ((spec_l1In.f a0_1 1 99).bind fun t368 => (if t368 = true then ((spec_l1In.f a0_3 0 2).bind fun t369 => (if t369 = true then ((spec_l1In.f a0_5 0 9).bind fun t370 => (if t370 = true then (if a0_2 = 1 then (if a0_4 = 0 then (some true) else (if a0_2 = 2 then ((spec_l1In.f a0_4 0 9).bind fun t371 => (some t371)) else (some false))) else (if a0_2 = 2 then ((spec_l1In.f a0_4 0 9).bind fun t372 => (some t372)) else (some false))) else (some false))) else (some false))) else (some false))) else (some false))
set_option maxHeartbeats 8000000 in
set_option maxRecDepth 100000 in
theorem spec_IsValidOp.calls (a0_0 : Int) (a0_1 : Int) (a0_2 : Int) (a0_3 : Int) (a0_4 : Int) (a0_5 : Int) (r : Bool) (w : World) (h : spec_IsValidOp.f a0_0 a0_1 a0_2 a0_3 a0_4 a0_5 = some r) :
    Calls Tryd.prog 49 #[.agg #[.int .i64 a0_0, .int .i64 a0_1, .int .i64 a0_2, .int .i64 a0_3, .int .i64 a0_4, .int .i64 a0_5]] w fun e w' => e = .returned (.bool r) ∧ Below w.heap.size w w' := by
  have hu64 := Tryd.underlying64
  have HB := Aside0.mk (Below.refl w.heap.size w)
  have H : ((spec_l1In.f a0_0 0 2).bind fun t367 => (if t367 = true then ((spec_l1In.f a0_1 1 99).bind fun t368 => (if t368 = true then ((spec_l1In.f a0_3 0 2).bind fun t369 => (if t369 = true then ((spec_l1In.f a0_5 0 9).bind fun t370 => (if t370 = true then (if a0_2 = 1 then (if a0_4 = 0 then (some true) else (if a0_2 = 2 then ((spec_l1In.f a0_4 0 9).bind fun t371 => (some t371)) else (some false))) else (if a0_2 = 2 then ((spec_l1In.f a0_4 0 9).bind fun t372 => (some t372)) else (some false))) else (some false))) else (some false))) else (some false))) else (some false))) = some r := h
  clear h
  replace H := Option.bind_eq_some_iff.mp H
  obtain ⟨t367, A20, H⟩ := H
  try dsimp only at H
  have A2 := Aside0.mk A20
  clear A20
  go_enter Tryd.func49, Tryd.ntmps49
  go_wp2_with (first | ((with_reducible refine uR (N := 1) rfl ?_); refine bxe 1 #[.int .i64 a0_0, .int .i64 a0_1, .int .i64 a0_2, .int .i64 a0_3, .int .i64 a0_4, .int .i64 a0_5] 64 ?_; intro gb366 hg w32 hbox hb; have BK366 := Aside0.mk (hbox); have GW366 := tGe HB hg; have GE366 := tGe HB hg; replace HB := uQ HB hb; clear hb hbox hg; obtain ⟨hcz33_0, hcz33_1, hcz33_2, hcz33_3, hcz33_4, hcz33_5, hfz33_0, hfz33_1, hfz33_2, hfz33_3, hfz33_4, hfz33_5⟩ := cz6 BK366; refine ?roundEnd))
  case roundEnd =>
  by_cases c3 : t367 = true
  rotate_left
  · replace c3 := Bool.eq_false_iff.mpr c3
    subst c3
    try rw [if_neg (show ¬ (false = true) by decide)] at H
    obtain rfl := Option.some.inj H
    go_wp2_with (first | ((with_reducible refine uE (f := 48) rfl ?_); refine uL (some 5) Tryd.func48 #[.int .i64 a0_0, .int .i64 0, .int .i64 2] ?_; (with_reducible refine (spec_l1In.calls a0_0 0 2 false _ A2.out).mono ?_); rintro e w' ⟨rfl, ⟨nd, rfl⟩⟩; refine ⟨_, rfl, ?_⟩))
    go_ret
    exact ⟨q2, q3⟩
  subst c3
  try rw [if_pos rfl] at H
  replace H := Option.bind_eq_some_iff.mp H
  obtain ⟨t368, A40, H⟩ := H
  try dsimp only at H
  have A4 := Aside0.mk A40
  clear A40
  go_wp2_with (first | ((with_reducible refine uE (f := 48) rfl ?_); refine uL (some 5) Tryd.func48 #[.int .i64 a0_0, .int .i64 0, .int .i64 2] ?_; (with_reducible refine (spec_l1In.calls a0_0 0 2 true _ A2.out).mono ?_); rintro e w' ⟨rfl, ⟨nd, rfl⟩⟩; refine ⟨_, rfl, ?_⟩; refine ?roundEnd))
  case roundEnd =>
  by_cases c5 : t368 = true
  rotate_left
  · replace c5 := Bool.eq_false_iff.mpr c5
    subst c5
    try rw [if_neg (show ¬ (false = true) by decide)] at H
    obtain rfl := Option.some.inj H
    go_wp2_with (first | (go_at_call 48; (with_reducible refine (spec_l1In.calls a0_1 1 99 false _ A4.out).mono ?_); rintro e w' ⟨rfl, ⟨nd, rfl⟩⟩))
    go_ret
    exact ⟨q2, q3⟩
  subst c5
  try rw [if_pos rfl] at H
  replace H := Option.bind_eq_some_iff.mp H
  obtain ⟨t369, A60, H⟩ := H
  try dsimp only at H
  have A6 := Aside0.mk A60
  clear A60
  go_wp2_with (first | (go_at_call 48; (with_reducible refine (spec_l1In.calls a0_1 1 99 true _ A4.out).mono ?_); rintro e w' ⟨rfl, ⟨nd, rfl⟩⟩; refine ?roundEnd))
  case roundEnd =>
  by_cases c7 : t369 = true
  rotate_left
  · replace c7 := Bool.eq_false_iff.mpr c7
    subst c7
    try rw [if_neg (show ¬ (false = true) by decide)] at H
    obtain rfl := Option.some.inj H
    go_wp2_with (first | (go_at_call 48; (with_reducible refine (spec_l1In.calls a0_3 0 2 false _ A6.out).mono ?_); rintro e w' ⟨rfl, ⟨nd, rfl⟩⟩))
    go_ret
    exact ⟨q2, q3⟩
  subst c7
  try rw [if_pos rfl] at H
  replace H := Option.bind_eq_some_iff.mp H
  obtain ⟨t370, A80, H⟩ := H
  try dsimp only at H
  have A8 := Aside0.mk A80
  clear A80
  go_wp2_with (first | (go_at_call 48; (with_reducible refine (spec_l1In.calls a0_3 0 2 true _ A6.out).mono ?_); rintro e w' ⟨rfl, ⟨nd, rfl⟩⟩; refine ?roundEnd))
  case roundEnd =>
  by_cases c9 : t370 = true
  rotate_left
  · replace c9 := Bool.eq_false_iff.mpr c9
    subst c9
    try rw [if_neg (show ¬ (false = true) by decide)] at H
    obtain rfl := Option.some.inj H
    go_wp2_with (first | (go_at_call 48; (with_reducible refine (spec_l1In.calls a0_5 0 9 false _ A8.out).mono ?_); rintro e w' ⟨rfl, ⟨nd, rfl⟩⟩))
    go_ret
    exact ⟨q2, q3⟩
  subst c9
  try rw [if_pos rfl] at H
  go_wp2_with (first | (go_at_call 48; (with_reducible refine (spec_l1In.calls a0_5 0 9 true _ A8.out).mono ?_); rintro e w' ⟨rfl, ⟨nd, rfl⟩⟩; refine ?roundEnd))
  case roundEnd =>
  by_cases c10 : a0_2 = 1
  rotate_left
  · rw [if_neg c10] at H
    have c10b0 : (a0_2 == 1) = false := beq_eq_false_iff_ne.mpr c10
    have c10b1 : (a0_2 != 1) = true := bne_iff_ne.mpr c10
    by_cases c20 : a0_2 = 2
    rotate_left
    · rw [if_neg c20] at H
      have c20b0 : (a0_2 == 2) = false := beq_eq_false_iff_ne.mpr c20
      have c20b1 : (a0_2 != 2) = true := bne_iff_ne.mpr c20
      obtain rfl := Option.some.inj H
      go_wp2
      go_ret
      exact ⟨q2, q3⟩
    rw [if_pos c20] at H
    have c20b0 : (a0_2 == 2) = true := beq_iff_eq.mpr c20
    have c20b1 : (a0_2 != 2) = false := bne_eq_false_iff_eq.mpr c20
    clear c20
    replace H := Option.bind_eq_some_iff.mp H
    obtain ⟨t372, A210, H⟩ := H
    try dsimp only at H
    have A21 := Aside0.mk A210
    clear A210
    obtain rfl := Option.some.inj H
    go_wp2_with (first | (go_at_call 48; (with_reducible refine (spec_l1In.calls a0_4 0 9 t372 _ A21.out).mono ?_); rintro e w' ⟨rfl, ⟨nd, rfl⟩⟩))
    go_ret
    exact ⟨q2, q3⟩
  rw [if_pos c10] at H
  have c10b0 : (a0_2 == 1) = true := beq_iff_eq.mpr c10
  have c10b1 : (a0_2 != 1) = false := bne_eq_false_iff_eq.mpr c10
  clear c10
  by_cases c11 : a0_4 = 0
  · rw [if_pos c11] at H
    have c11b0 : (a0_4 == 0) = true := beq_iff_eq.mpr c11
    have c11b1 : (a0_4 != 0) = false := bne_eq_false_iff_eq.mpr c11
    clear c11
    obtain rfl := Option.some.inj H
    go_wp2
    go_ret
    exact ⟨q2, q3⟩
  rw [if_neg c11] at H
  have c11b0 : (a0_4 == 0) = false := beq_eq_false_iff_ne.mpr c11
  have c11b1 : (a0_4 != 0) = true := bne_iff_ne.mpr c11
  by_cases c14 : a0_2 = 2
  rotate_left
  · rw [if_neg c14] at H
    have c14b0 : (a0_2 == 2) = false := beq_eq_false_iff_ne.mpr c14
    have c14b1 : (a0_2 != 2) = true := bne_iff_ne.mpr c14
    obtain rfl := Option.some.inj H
    go_wp2
    go_ret
    exact ⟨q2, q3⟩
  rw [if_pos c14] at H
  have c14b0 : (a0_2 == 2) = true := beq_iff_eq.mpr c14
  have c14b1 : (a0_2 != 2) = false := bne_eq_false_iff_eq.mpr c14
  clear c14
  replace H := Option.bind_eq_some_iff.mp H
  obtain ⟨t371, A150, H⟩ := H
  try dsimp only at H
  have A15 := Aside0.mk A150
  clear A150
  obtain rfl := Option.some.inj H
  go_wp2_with (first | (go_at_call 48; (with_reducible refine (spec_l1In.calls a0_4 0 9 t371 _ A15.out).mono ?_); rintro e w' ⟨rfl, ⟨nd, rfl⟩⟩))
  go_ret
  exact ⟨q2, q3⟩

end Go.Proofs.YtcikahnmiiichaaDoor.G
