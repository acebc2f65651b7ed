/- Go functions as Lean functions, and the proof that the code comes to them: written by a program of this session out of the translation. -/
import Derived.Test.YtcikahnmiiichaaN0
import Derived.Test.YtcikahnmiiichaaN2
namespace Go.Proofs.Ytcikahnmiiichaa.N
open List renaming setIfInBounds_toArray → yA, set_cons_zero → yB, set_cons_succ → yC, map_toArray → yD
open Go.World renaming block_lt_of_cell? → yG
open Go.RowKit Go.Proofs.YtcikahnmiiichaaW.PrintWords Go.Proofs.YtcikahnmiiichaaW.PrintLast Go.Proofs.YtcikahnmiiichaaW.PrintMore
attribute [local go_sem] max2_int min2_int max_two min_two vX vY max_four min_four   -- for this text's walks alone
set_option linter.unusedVariables false
set_option linter.unusedSimpArgs false

attribute [local go_sem high] eqA49
/-! ### laws_big: function 17 -/
def laws_big.f (l0 : List Int) : Option (Bool) := some (decide ((l0.length : Int) > 1048576))
set_option maxHeartbeats 8000000 in
set_option maxRecDepth 100000 in
theorem laws_big.calls (A0 : Option Addr) (c0 : Nat) (l0 : List Int) (r : Bool) (w : World) (hr0 : Kd.C (Kd.int .u8) w A0 l0.length l0) (hc0 : l0.length ≤ c0) (h : laws_big.f l0 = some r) :
    Calls Try.prog 17 #[.slice A0 l0.length c0] w fun e w' => e = .returned (.bool r) ∧ Drawn0 w w' := by
  have HR0 := Aside0.mk hr0
  have HC0 := Aside0.mk hc0
  clear hr0 hc0
  have H : (some (decide ((l0.length : Int) > 1048576))) = some r := h
  clear h
  obtain rfl := Option.some.inj H
  go_enter Try.func17, Try.ntmps17
  go_wp2
  go_ret
  exact ⟨cq15, cq37⟩

/-! ### slices_Equal_int_int: function 61 -/
def slices_Equal_int_int.l0 : Nat → List Int → List Int → Int → Int → Option (Bool)
  | 0, _, _, _, _ => none
  | k + 1, x0, x1, x12, x13 => if x13 < x12 then (if 0 ≤ x13 then (if x13 < (x0.length : Int) then (if x13 < (x1.length : Int) then (if (rd x0 x13) = (rd x1 x13) then (slices_Equal_int_int.l0 k x0 x1 x12 (wrap64 (x13 + 1))) else (some false)) else (none)) else (none)) else (none)) else (some true)
def slices_Equal_int_int.f (k : Nat) (l0 : List Int) (l1 : List Int) : Option (Bool) := if (l0.length : Int) = (l1.length : Int) then (slices_Equal_int_int.l0 k l0 l1 (l0.length : Int) 0) else (some false)
theorem slices_Equal_int_int.mono_l : ∀ k, (∀ y0 y1 y2 y3, uI (slices_Equal_int_int.l0 k y0 y1 y2 y3) (slices_Equal_int_int.l0 (k + 1) y0 y1 y2 y3))
  | 0 => fun _ _ _ _ r h => by simp [slices_Equal_int_int.l0] at h
  | k + 1 => by
    have ih0 := slices_Equal_int_int.mono_l k
    intro y0 y1 y2 y3
    unfold slices_Equal_int_int.l0
    repeat' first
    | (with_reducible exact ih0 _ _ _ _)
    | (with_reducible exact uI.refl _)
    | (with_reducible exact uI.none _)
    | (with_reducible refine uI.ite ?_ ?_)
    | (with_reducible refine uI.bind ?_ (fun _ => ?_))
    | exact ih0 _ _ _ _
    | exact uI.none _
    | refine uI.ite ?_ ?_
    | refine uI.bind ?_ (fun _ => ?_)
theorem slices_Equal_int_int.mono : ∀ a0 a1 k, uI (slices_Equal_int_int.f k a0 a1) (slices_Equal_int_int.f (k + 1) a0 a1) := by
  intro a0 a1 k
  have ih0 := slices_Equal_int_int.mono_l k
  unfold slices_Equal_int_int.f
  repeat' first
      | (with_reducible exact ih0 _ _ _ _)
      | (with_reducible exact uI.refl _)
      | (with_reducible exact uI.none _)
      | (with_reducible refine uI.ite ?_ ?_)
      | (with_reducible refine uI.bind ?_ (fun _ => ?_))
      | exact ih0 _ _ _ _
      | exact uI.none _
      | refine uI.ite ?_ ?_
      | refine uI.bind ?_ (fun _ => ?_)
set_option maxHeartbeats 8000000 in
set_option maxRecDepth 100000 in
theorem slices_Equal_int_int.calls (k : Nat) (A0 : Option Addr) (c0 : Nat) (l0 : List Int) (A1 : Option Addr) (c1 : Nat) (l1 : List Int) (r : Bool) (w : World) (hr0 : Kd.C (Kd.int .i64) w A0 l0.length l0) (hc0 : l0.length ≤ c0) (hr1 : Kd.C (Kd.int .i64) w A1 l1.length l1) (hc1 : l1.length ≤ c1) (h : slices_Equal_int_int.f k l0 l1 = some r) :
    Calls Try.prog 61 #[.slice A0 l0.length c0, .slice A1 l1.length c1] w fun e w' => e = .returned (.bool r) ∧ Drawn0 w w' := by
  have HR0 := Aside0.mk hr0
  have HC0 := Aside0.mk hc0
  clear hr0 hc0
  have HR1 := Aside0.mk hr1
  have HC1 := Aside0.mk hc1
  clear hr1 hc1
  have H : (if (l0.length : Int) = (l1.length : Int) then (slices_Equal_int_int.l0 k l0 l1 (l0.length : Int) 0) else (some false)) = some r := h
  clear h
  by_cases c3 : (l0.length : Int) = (l1.length : Int)
  rotate_left
  · rw [if_neg c3] at H
    have c3b0 := beq_eq_false_iff_ne.mpr c3
    have c3b1 := bne_iff_ne.mpr c3
    have c3b2 : (l0.length == l1.length) = false := by first | simpa using c3 | (simp at c3 ⊢; omega)
    obtain rfl := Option.some.inj H
    go_enter Try.func61, Try.ntmps61
    go_wp2
    repeat (go_quiet (fail); try go_wp2)
    go_ret
    exact ⟨cq15, cq37⟩
  rw [if_pos c3] at H
  have c3b0 := beq_iff_eq.mpr c3
  have c3b1 := bne_eq_false_iff_eq.mpr c3
  have c3b2 : (l0.length == l1.length) = true := by first | simpa using c3 | (simp at c3 ⊢; omega)
  clear c3
  have H' := Aside0.mk H
  clear H
  go_enter Try.func61, Try.ntmps61
  go_wp2
  repeat (go_quiet (fail); try go_wp2)
  go_loopg [13] k (fun kq v13 w' => ∃ (x13_1 : Int), v13 = .int .i64 x13_1 ∧ Aside0 (slices_Equal_int_int.l0 kq l0 l1 (l0.length : Int) x13_1 = some r) ∧ Aside0 (kq ≤ k) ∧ Drawn0 w w')
  case atStart => exact ⟨(0), cq15, H', ⟨Nat.le_refl _⟩, cq37⟩
  case round =>
    clear H'
    try clear c1
    try clear c3
    try clear c3b0
    try clear c3b1
    try clear c3b2
    obtain ⟨x13_1, rfl, HA, HK1, ⟨m1, rfl⟩⟩ := hrel
    cases gk with
    | zero => exact absurd HA.out (by simp [slices_Equal_int_int.l0])
    | succ k1 =>
      have H := HA.out
      clear HA
      simp only [slices_Equal_int_int.l0] at H
      by_cases c4 : x13_1 < (l0.length : Int)
      rotate_left
      · rw [if_neg c4] at H
        have c4b0 := decide_eq_false c4
        clear c4
        obtain rfl := Option.some.inj H
        go_wp2
        repeat (go_quiet (fail); try go_wp2)
        go_ret
        exact ⟨cq15, cq37⟩
      rw [if_pos c4] at H
      have c4b0 := decide_eq_true c4
      clear c4
      obtain ⟨c5b0, H⟩ := ifD H
      obtain ⟨c6b0, H⟩ := ifD H
      obtain ⟨c7b0, H⟩ := ifD H
      by_cases c8 : (rd l0 x13_1) = (rd l1 x13_1)
      rotate_left
      · rw [if_neg c8] at H
        have c8b0 := beq_eq_false_iff_ne.mpr c8
        have c8b1 := bne_iff_ne.mpr c8
        obtain rfl := Option.some.inj H
        have p101 : 0 ≤ (x13_1 : Int) := of_decide_eq_true cq12
        have q101 : x13_1 < (l0.length : Int) := of_decide_eq_true cq12
        obtain ⟨ad101, e101, hx101_0⟩ := Kd.at_int HR0.out x13_1 p101 q101
        cases e101
        replace p101 := eq_true p101
        replace q101 := eq_true q101
        have p102 : 0 ≤ (x13_1 : Int) := of_decide_eq_true cq12
        have q102 : x13_1 < (l1.length : Int) := of_decide_eq_true cq12
        obtain ⟨ad102, e102, hx102_0⟩ := Kd.at_int HR1.out x13_1 p102 q102
        cases e102
        replace p102 := eq_true p102
        replace q102 := eq_true q102
        go_wp2
        repeat (go_quiet (fail); try go_wp2)
        go_ret
        exact ⟨cq15, cq37⟩
      rw [if_pos c8] at H
      have c8b0 := beq_iff_eq.mpr c8
      have c8b1 := bne_eq_false_iff_eq.mpr c8
      clear c8
      have H' := Aside0.mk H
      clear H
      have p101 : 0 ≤ (x13_1 : Int) := of_decide_eq_true cq12
      have q101 : x13_1 < (l0.length : Int) := of_decide_eq_true cq12
      obtain ⟨ad101, e101, hx101_0⟩ := Kd.at_int HR0.out x13_1 p101 q101
      cases e101
      replace p101 := eq_true p101
      replace q101 := eq_true q101
      have p102 : 0 ≤ (x13_1 : Int) := of_decide_eq_true cq12
      have q102 : x13_1 < (l1.length : Int) := of_decide_eq_true cq12
      obtain ⟨ad102, e102, hx102_0⟩ := Kd.at_int HR1.out x13_1 p102 q102
      cases e102
      replace p102 := eq_true p102
      replace q102 := eq_true q102
      go_wp2
      repeat (go_quiet (fail); try go_wp2)
      go_roundg k1
      case measure => have := HK1.out; omega
      case rel => exact ⟨(wrap64 (x13_1 + 1)), cq15, H', ⟨by have := HK1.out; omega⟩, cq37⟩

/-! ### slices_Equal_impl_Session_impl_Session: function 62 -/
def slices_Equal_impl_Session_impl_Session.l0 : Nat → List (S49) → List (S49) → Int → Int → Option (Bool)
  | 0, _, _, _, _ => none
  | k + 1, x0, x1, x12, x13 => if x13 < x12 then (if 0 ≤ x13 then (if x13 < (x0.length : Int) then (if x13 < (x1.length : Int) then (if (!(((rd_T49 x0 x13).f0) == ((rd_T49 x1 x13).f0)) || (!(((rd_T49 x0 x13).f1) == ((rd_T49 x1 x13).f1)) || ((!(((rd_T49 x0 x13).f2.f0) == ((rd_T49 x1 x13).f2.f0)) || (!(((rd_T49 x0 x13).f2.f1) == ((rd_T49 x1 x13).f2.f1))))))) = true then (some false) else (slices_Equal_impl_Session_impl_Session.l0 k x0 x1 x12 (wrap64 (x13 + 1)))) else (none)) else (none)) else (none)) else (some true)
def slices_Equal_impl_Session_impl_Session.f (k : Nat) (l0 : List (S49)) (l1 : List (S49)) : Option (Bool) := if (l0.length : Int) = (l1.length : Int) then (slices_Equal_impl_Session_impl_Session.l0 k l0 l1 (l0.length : Int) 0) else (some false)
theorem slices_Equal_impl_Session_impl_Session.mono_l : ∀ k, (∀ y0 y1 y2 y3, uI (slices_Equal_impl_Session_impl_Session.l0 k y0 y1 y2 y3) (slices_Equal_impl_Session_impl_Session.l0 (k + 1) y0 y1 y2 y3))
  | 0 => fun _ _ _ _ r h => by simp [slices_Equal_impl_Session_impl_Session.l0] at h
  | k + 1 => by
    have ih0 := slices_Equal_impl_Session_impl_Session.mono_l k
    intro y0 y1 y2 y3
    unfold slices_Equal_impl_Session_impl_Session.l0
    repeat' first
    | (with_reducible exact ih0 _ _ _ _)
    | (with_reducible exact uI.refl _)
    | (with_reducible exact uI.none _)
    | (with_reducible refine uI.ite ?_ ?_)
    | (with_reducible refine uI.bind ?_ (fun _ => ?_))
    | exact ih0 _ _ _ _
    | exact uI.none _
    | refine uI.ite ?_ ?_
    | refine uI.bind ?_ (fun _ => ?_)
theorem slices_Equal_impl_Session_impl_Session.mono : ∀ a0 a1 k, uI (slices_Equal_impl_Session_impl_Session.f k a0 a1) (slices_Equal_impl_Session_impl_Session.f (k + 1) a0 a1) := by
  intro a0 a1 k
  have ih0 := slices_Equal_impl_Session_impl_Session.mono_l k
  unfold slices_Equal_impl_Session_impl_Session.f
  repeat' first
      | (with_reducible exact ih0 _ _ _ _)
      | (with_reducible exact uI.refl _)
      | (with_reducible exact uI.none _)
      | (with_reducible refine uI.ite ?_ ?_)
      | (with_reducible refine uI.bind ?_ (fun _ => ?_))
      | exact ih0 _ _ _ _
      | exact uI.none _
      | refine uI.ite ?_ ?_
      | refine uI.bind ?_ (fun _ => ?_)
set_option maxHeartbeats 8000000 in
set_option maxRecDepth 100000 in
theorem slices_Equal_impl_Session_impl_Session.calls (k : Nat) (A0 : Option Addr) (c0 : Nat) (l0 : List (S49)) (A1 : Option Addr) (c1 : Nat) (l1 : List (S49)) (r : Bool) (w : World) (hr0 : Kd.C k49 w A0 l0.length l0) (hc0 : l0.length ≤ c0) (hr1 : Kd.C k49 w A1 l1.length l1) (hc1 : l1.length ≤ c1) (h : slices_Equal_impl_Session_impl_Session.f k l0 l1 = some r) :
    Calls Try.prog 62 #[.slice A0 l0.length c0, .slice A1 l1.length c1] w fun e w' => e = .returned (.bool r) ∧ Drawn0 w w' := by
  have hu49 := Try.underlying49
  have HR0 := Aside0.mk hr0
  have HC0 := Aside0.mk hc0
  clear hr0 hc0
  have HR1 := Aside0.mk hr1
  have HC1 := Aside0.mk hc1
  clear hr1 hc1
  have H : (if (l0.length : Int) = (l1.length : Int) then (slices_Equal_impl_Session_impl_Session.l0 k l0 l1 (l0.length : Int) 0) else (some false)) = some r := h
  clear h
  by_cases c3 : (l0.length : Int) = (l1.length : Int)
  rotate_left
  · rw [if_neg c3] at H
    have c3b0 := beq_eq_false_iff_ne.mpr c3
    have c3b1 := bne_iff_ne.mpr c3
    have c3b2 : (l0.length == l1.length) = false := by first | simpa using c3 | (simp at c3 ⊢; omega)
    obtain rfl := Option.some.inj H
    go_enter Try.func62, Try.ntmps62
    go_wp2
    repeat (go_quiet (fail); try go_wp2)
    go_ret
    exact ⟨cq15, cq37⟩
  rw [if_pos c3] at H
  have c3b0 := beq_iff_eq.mpr c3
  have c3b1 := bne_eq_false_iff_eq.mpr c3
  have c3b2 : (l0.length == l1.length) = true := by first | simpa using c3 | (simp at c3 ⊢; omega)
  clear c3
  have H' := Aside0.mk H
  clear H
  go_enter Try.func62, Try.ntmps62
  go_wp2
  repeat (go_quiet (fail); try go_wp2)
  go_loopg [13] k (fun kq v13 w' => ∃ (x13_1 : Int), v13 = .int .i64 x13_1 ∧ Aside0 (slices_Equal_impl_Session_impl_Session.l0 kq l0 l1 (l0.length : Int) x13_1 = some r) ∧ Aside0 (kq ≤ k) ∧ Drawn0 w w')
  case atStart => exact ⟨(0), cq15, H', ⟨Nat.le_refl _⟩, cq37⟩
  case round =>
    clear H'
    try clear c1
    try clear c3
    try clear c3b0
    try clear c3b1
    try clear c3b2
    obtain ⟨x13_1, rfl, HA, HK1, ⟨m1, rfl⟩⟩ := hrel
    cases gk with
    | zero => exact absurd HA.out (by simp [slices_Equal_impl_Session_impl_Session.l0])
    | succ k1 =>
      have H := HA.out
      clear HA
      simp only [slices_Equal_impl_Session_impl_Session.l0] at H
      by_cases c4 : x13_1 < (l0.length : Int)
      rotate_left
      · rw [if_neg c4] at H
        have c4b0 := decide_eq_false c4
        clear c4
        obtain rfl := Option.some.inj H
        go_wp2
        repeat (go_quiet (fail); try go_wp2)
        go_ret
        exact ⟨cq15, cq37⟩
      rw [if_pos c4] at H
      have c4b0 := decide_eq_true c4
      clear c4
      obtain ⟨c5b0, H⟩ := ifD H
      obtain ⟨c6b0, H⟩ := ifD H
      obtain ⟨c7b0, H⟩ := ifD H
      by_cases c8 : (!(((rd_T49 l0 x13_1).f0) == ((rd_T49 l1 x13_1).f0)) || (!(((rd_T49 l0 x13_1).f1) == ((rd_T49 l1 x13_1).f1)) || ((!(((rd_T49 l0 x13_1).f2.f0) == ((rd_T49 l1 x13_1).f2.f0)) || (!(((rd_T49 l0 x13_1).f2.f1) == ((rd_T49 l1 x13_1).f2.f1))))))) = true
      · rw [if_pos c8] at H
        have c8b0 : (!(((rd_T49 l0 x13_1).f0) == ((rd_T49 l1 x13_1).f0)) || (!(((rd_T49 l0 x13_1).f1) == ((rd_T49 l1 x13_1).f1)) || ((!(((rd_T49 l0 x13_1).f2.f0) == ((rd_T49 l1 x13_1).f2.f0)) || (!(((rd_T49 l0 x13_1).f2.f1) == ((rd_T49 l1 x13_1).f2.f1))))))) = true := c8
        clear c8
        obtain rfl := Option.some.inj H
        have p103 : 0 ≤ (x13_1 : Int) := of_decide_eq_true cq12
        have q103 : x13_1 < (l0.length : Int) := of_decide_eq_true cq12
        obtain ⟨ad103, e103, hx103_0, hx103_1, hx103_2, hx103_3⟩ := at_T49 HR0.out x13_1 p103 q103
        cases e103
        replace p103 := eq_true p103
        replace q103 := eq_true q103
        have p104 : 0 ≤ (x13_1 : Int) := of_decide_eq_true cq12
        have q104 : x13_1 < (l1.length : Int) := of_decide_eq_true cq12
        obtain ⟨ad104, e104, hx104_0, hx104_1, hx104_2, hx104_3⟩ := at_T49 HR1.out x13_1 p104 q104
        cases e104
        replace p104 := eq_true p104
        replace q104 := eq_true q104
        go_wp2
        repeat (go_quiet (fail); try go_wp2)
        go_ret
        exact ⟨cq15, cq37⟩
      rw [if_neg c8] at H
      have c8b0 : (!(((rd_T49 l0 x13_1).f0) == ((rd_T49 l1 x13_1).f0)) || (!(((rd_T49 l0 x13_1).f1) == ((rd_T49 l1 x13_1).f1)) || ((!(((rd_T49 l0 x13_1).f2.f0) == ((rd_T49 l1 x13_1).f2.f0)) || (!(((rd_T49 l0 x13_1).f2.f1) == ((rd_T49 l1 x13_1).f2.f1))))))) = false := by simpa using c8
      clear c8
      have H' := Aside0.mk H
      clear H
      have p103 : 0 ≤ (x13_1 : Int) := of_decide_eq_true cq12
      have q103 : x13_1 < (l0.length : Int) := of_decide_eq_true cq12
      obtain ⟨ad103, e103, hx103_0, hx103_1, hx103_2, hx103_3⟩ := at_T49 HR0.out x13_1 p103 q103
      cases e103
      replace p103 := eq_true p103
      replace q103 := eq_true q103
      have p104 : 0 ≤ (x13_1 : Int) := of_decide_eq_true cq12
      have q104 : x13_1 < (l1.length : Int) := of_decide_eq_true cq12
      obtain ⟨ad104, e104, hx104_0, hx104_1, hx104_2, hx104_3⟩ := at_T49 HR1.out x13_1 p104 q104
      cases e104
      replace p104 := eq_true p104
      replace q104 := eq_true q104
      go_wp2
      repeat (go_quiet (fail); try go_wp2)
      go_roundg k1
      case measure => have := HK1.out; omega
      case rel => exact ⟨(wrap64 (x13_1 + 1)), cq15, H', ⟨by have := HK1.out; omega⟩, cq37⟩

/-! ### impl_EqualMachines: function 19 -/
def impl_EqualMachines.f (k : Nat) (l0_0 : List Int) (l0_1 : List (S49)) (l1_0 : List Int) (l1_1 : List (S49)) : Option (Bool) := (slices_Equal_int_int.f k l0_0 l1_0).bind fun t107 => (if t107 = true then ((slices_Equal_impl_Session_impl_Session.f k l0_1 l1_1).bind fun t108 => (some t108)) else (some false))
theorem impl_EqualMachines.mono : ∀ a0 a1 a2 a3 k, uI (impl_EqualMachines.f k a0 a1 a2 a3) (impl_EqualMachines.f (k + 1) a0 a1 a2 a3) := by
  intro a0 a1 a2 a3 k
  unfold impl_EqualMachines.f
  repeat' first
      | (with_reducible exact slices_Equal_impl_Session_impl_Session.mono _ _ _)
      | (with_reducible exact slices_Equal_int_int.mono _ _ _)
      | (with_reducible exact uI.refl _)
      | (with_reducible exact uI.none _)
      | (with_reducible refine uI.ite ?_ ?_)
      | (with_reducible refine uI.bind ?_ (fun _ => ?_))
      | exact uI.none _
      | refine uI.ite ?_ ?_
      | refine uI.bind ?_ (fun _ => ?_)
set_option maxHeartbeats 8000000 in
set_option maxRecDepth 100000 in
theorem impl_EqualMachines.calls (k : Nat) (A0_0 : Option Addr) (c0_0 : Nat) (l0_0 : List Int) (A0_1 : Option Addr) (c0_1 : Nat) (l0_1 : List (S49)) (A1_0 : Option Addr) (c1_0 : Nat) (l1_0 : List Int) (A1_1 : Option Addr) (c1_1 : Nat) (l1_1 : List (S49)) (r : Bool) (w : World) (hr0_0 : Kd.C (Kd.int .i64) w A0_0 l0_0.length l0_0) (hc0_0 : l0_0.length ≤ c0_0) (hr0_1 : Kd.C k49 w A0_1 l0_1.length l0_1) (hc0_1 : l0_1.length ≤ c0_1) (hr1_0 : Kd.C (Kd.int .i64) w A1_0 l1_0.length l1_0) (hc1_0 : l1_0.length ≤ c1_0) (hr1_1 : Kd.C k49 w A1_1 l1_1.length l1_1) (hc1_1 : l1_1.length ≤ c1_1) (h : impl_EqualMachines.f k l0_0 l0_1 l1_0 l1_1 = some r) :
    Calls Try.prog 19 #[.agg #[.slice A0_0 l0_0.length c0_0, .slice A0_1 l0_1.length c0_1], .agg #[.slice A1_0 l1_0.length c1_0, .slice A1_1 l1_1.length c1_1]] w fun e w' => e = .returned (.bool r) ∧ Below w.heap.size w w' := by
  have hu31 := Try.underlying31
  have HR0_0 := Aside0.mk hr0_0
  have HC0_0 := Aside0.mk hc0_0
  clear hr0_0 hc0_0
  have HR0_1 := Aside0.mk hr0_1
  have HC0_1 := Aside0.mk hc0_1
  clear hr0_1 hc0_1
  have HR1_0 := Aside0.mk hr1_0
  have HC1_0 := Aside0.mk hc1_0
  clear hr1_0 hc1_0
  have HR1_1 := Aside0.mk hr1_1
  have HC1_1 := Aside0.mk hc1_1
  clear hr1_1 hc1_1
  have HB := Aside0.mk (Below.refl w.heap.size w)
  have H : ((slices_Equal_int_int.f k l0_0 l1_0).bind fun t107 => (if t107 = true then ((slices_Equal_impl_Session_impl_Session.f k l0_1 l1_1).bind fun t108 => (some t108)) else (some false))) = some r := h
  clear h
  replace H := Option.bind_eq_some_iff.mp H
  obtain ⟨t107, A30, H⟩ := H
  try dsimp only at H
  have A3 := Aside0.mk A30
  clear A30
  go_enter Try.func19, Try.ntmps19
  go_wp2_with (first | ((with_reducible refine uJ (N := 2) rfl ?_); refine bxe 2 #[.slice A0_0 l0_0.length c0_0, .slice A0_1 l0_1.length c0_1] 31 ?_; intro gb105 hg w11 hbox hb; have BK105 := Aside0.mk (hbox); have GW105 := tGe HB hg; have GE105 := tGe HB hg; replace HB := vB HB hb; clear hb hbox hg) | ((with_reducible refine uJ (N := 3) rfl ?_); refine bxe 3 #[.slice A1_0 l1_0.length c1_0, .slice A1_1 l1_1.length c1_1] 31 ?_; intro gb106 hg w12 hbox hb; have BK106 := Aside0.mk (hbox); have GW106 := tGe HB hg; have GE106 := tGe HB hg; have NB105_106 := tNl BK105 hg; have NB106_105 := tNg BK105 hg; replace BK105 := uP BK105 hb; replace HB := vB HB hb; clear hb hbox hg; have hnb13 := NB105_106.out; have hnc13 := NB106_105.out; obtain ⟨hcz14_0, hcz14_1, hfz14_0, hfz14_1⟩ := cz2 BK105; obtain ⟨hcz15_0, hcz15_1, hfz15_0, hfz15_1⟩ := cz2 BK106; refine ?roundEnd))
  case roundEnd =>
  by_cases c4 : t107 = true
  rotate_left
  · replace c4 := Bool.eq_false_iff.mpr c4
    subst c4
    try rw [if_neg (show ¬ (false = true) by decide)] at H
    obtain rfl := Option.some.inj H
    go_wp2_with (first | ((with_reducible refine uF (f := 61) rfl ?_); refine uX (some 9) Try.func61 #[.slice A0_0 l0_0.length c0_0, .slice A1_0 l1_0.length c1_0] ?_; (with_reducible refine (slices_Equal_int_int.calls k _ _ l0_0 _ _ l1_0 false _ ?side1 ?side2 ?side3 ?side4 A3.out).mono ?_); (case side1 => exact cq50); (case side2 => exact HC0_0.out); (case side3 => repeat (first | exact (Kd.vC HR1_0.out HB.out) | (with_reducible refine Kd.vW ?_ _) | (with_reducible refine Kd.vV ?_ _) | (with_reducible refine Kd.C_drew ?_))); (case side4 => exact HC1_0.out); rintro e w' ⟨rfl, ⟨nd, rfl⟩⟩; refine ⟨_, rfl, ?_⟩))
    go_ret
    exact ⟨cq3, vA⟩
  subst c4
  try rw [if_pos rfl] at H
  replace H := Option.bind_eq_some_iff.mp H
  obtain ⟨t108, A50, H⟩ := H
  try dsimp only at H
  have A5 := Aside0.mk A50
  clear A50
  obtain rfl := Option.some.inj H
  go_wp2_with (first | ((with_reducible refine uF (f := 61) rfl ?_); refine uX (some 9) Try.func61 #[.slice A0_0 l0_0.length c0_0, .slice A1_0 l1_0.length c1_0] ?_; (with_reducible refine (slices_Equal_int_int.calls k _ _ l0_0 _ _ l1_0 true _ ?side1 ?side2 ?side3 ?side4 A3.out).mono ?_); (case side1 => exact cq50); (case side2 => exact HC0_0.out); (case side3 => repeat (first | exact (Kd.vC HR1_0.out HB.out) | (with_reducible refine Kd.vW ?_ _) | (with_reducible refine Kd.vV ?_ _) | (with_reducible refine Kd.C_drew ?_))); (case side4 => exact HC1_0.out); rintro e w' ⟨rfl, ⟨nd, rfl⟩⟩; refine ⟨_, rfl, ?_⟩) | (go_at_call 62; (with_reducible refine (slices_Equal_impl_Session_impl_Session.calls k _ _ l0_1 _ _ l1_1 t108 _ ?side1 ?side2 ?side3 ?side4 A5.out).mono ?_); (case side1 => repeat (first | exact (Kd.vC HR0_1.out vA) | (with_reducible refine Kd.vW ?_ _) | (with_reducible refine Kd.vV ?_ _) | (with_reducible refine Kd.C_drew ?_))); (case side2 => exact HC0_1.out); (case side3 => repeat (first | exact (Kd.vC HR1_1.out vA) | (with_reducible refine Kd.vW ?_ _) | (with_reducible refine Kd.vV ?_ _) | (with_reducible refine Kd.C_drew ?_))); (case side4 => exact HC1_1.out); rintro e w' ⟨rfl, ⟨nd, rfl⟩⟩))
  go_ret
  exact ⟨cq3, vA⟩

/-! ### spec_l4Copy: function 44 -/
def spec_l4Copy.f (l0_0 : List Int) (l0_1 : List (S49)) : Option (List Int × (List (S49))) := (some (([] : List Int) : List Int)).bind fun y111 => (if y111.length + l0_0.length < 17592186044416 then ((some (([] : List (S49)) : List (S49))).bind fun y117 => (if y117.length + l0_1.length < 4398046511104 then (some ((y111 ++ l0_0), (y117 ++ l0_1))) else (none))) else (none))
def spec_l4Copy.T1 : Bool × List (List Nat × List Nat) := (true, [([], []), ([], []), ([1], [1]), ([0, 2], [0, 2]), ([], []), ([], []), ([5], [5]), ([4, 6, 3], [4, 6]), ([3, 7], [3, 7]), ([8, 7, 0, 1, 2, 3, 4, 5, 6, 7, 8], [8])])
def spec_l4Copy.B1 : List Nat := [0, 0, 2, 7, 0, 0, 32, 127, 255, 511]
theorem spec_l4Copy.tab1 : rtab .any (opsOf Try.f44 1) = spec_l4Copy.T1 := by kernel_rfl
theorem spec_l4Copy.bits1 : waitsOk spec_l4Copy.T1.2 spec_l4Copy.B1 = true := by kernel_rfl
set_option maxHeartbeats 8000000 in
set_option maxRecDepth 100000 in
theorem spec_l4Copy.calls (A0_0 : Option Addr) (c0_0 : Nat) (l0_0 : List Int) (A0_1 : Option Addr) (c0_1 : Nat) (l0_1 : List (S49)) (r1 : List Int) (r2 : List (S49)) (w : World) (hr0_0 : Kd.C (Kd.int .i64) w A0_0 l0_0.length l0_0) (hc0_0 : l0_0.length ≤ c0_0) (hr0_1 : Kd.C k49 w A0_1 l0_1.length l0_1) (hc0_1 : l0_1.length ≤ c0_1) (h : spec_l4Copy.f l0_0 l0_1 = some (r1, r2)) :
    Calls Try.prog 44 #[.agg #[.slice A0_0 l0_0.length c0_0, .slice A0_1 l0_1.length c0_1]] w fun e w' => ∃ v0_ v1_ : Value, e = .returned (.agg #[v0_, v1_]) ∧ Kd.R (Kd.int .i64) 3 w' w.heap.size (fun _ => True) v0_ r1 ∧ Kd.R k49 49 w' w.heap.size (fun _ => True) v1_ r2 ∧ Below w.heap.size w w' := by
  have hu31 := Try.underlying31
  have HR0_0 := Aside0.mk hr0_0
  have HC0_0 := Aside0.mk hc0_0
  clear hr0_0 hc0_0
  have HR0_1 := Aside0.mk hr0_1
  have HC0_1 := Aside0.mk hc0_1
  clear hr0_1 hc0_1
  have HB := Aside0.mk (Below.refl w.heap.size w)
  have H : ((some (([] : List Int) : List Int)).bind fun y111 => (if y111.length + l0_0.length < 17592186044416 then ((some (([] : List (S49)) : List (S49))).bind fun y117 => (if y117.length + l0_1.length < 4398046511104 then (some ((y111 ++ l0_0), (y117 ++ l0_1))) else (none))) else (none))) = some (r1, r2) := h
  clear h
  obtain ⟨y111, hy111⟩ : ∃ y_ : List Int, y_ = (([] : List Int)) := ⟨_, rfl⟩
  replace H : (if y111.length + l0_0.length < 17592186044416 then ((some (([] : List (S49)) : List (S49))).bind fun y117 => (if y117.length + l0_1.length < 4398046511104 then (some ((y111 ++ l0_0), (y117 ++ l0_1))) else (none))) else (none)) = some (r1, r2) := rpl hy111 H
  have Ny111 := Aside0.mk hy111
  clear hy111
  obtain ⟨LMc2, H⟩ := ifL H
  obtain ⟨y114, hy114⟩ : ∃ y_ : List Int, y_ = (y111 ++ l0_0) := ⟨_, rfl⟩
  replace H : ((some (([] : List (S49)) : List (S49))).bind fun y117 => (if y117.length + l0_1.length < 4398046511104 then (some (y114, (y117 ++ l0_1))) else (none))) = some (r1, r2) := rpl hy114 H
  have Ny114 := Aside0.mk hy114
  clear hy114
  obtain ⟨y117, hy117⟩ : ∃ y_ : List (S49), y_ = (([] : List (S49))) := ⟨_, rfl⟩
  replace H : (if y117.length + l0_1.length < 4398046511104 then (some (y114, (y117 ++ l0_1))) else (none)) = some (r1, r2) := rpl hy117 H
  have Ny117 := Aside0.mk hy117
  clear hy117
  obtain ⟨LMc3, H⟩ := ifL H
  obtain ⟨y120, hy120⟩ : ∃ y_ : List (S49), y_ = (y117 ++ l0_1) := ⟨_, rfl⟩
  replace H : (some (y114, y120)) = some (r1, r2) := rpl hy120 H
  have Ny120 := Aside0.mk hy120
  clear hy120
  simp only [Option.some.injEq, Prod.mk.injEq] at H
  obtain ⟨rfl, rfl⟩ := H
  go_enter Try.func44, Try.ntmps44
  try go_wp2_with (first | ((with_reducible refine uJ (N := 1) rfl ?_); refine bxe 1 #[.slice A0_0 l0_0.length c0_0, .slice A0_1 l0_1.length c0_1] 31 ?_; intro gb109 hg w4 hbox hb; have BK109 := Aside0.mk (hbox); have GW109 := tGe HB hg; have GE109 := tGe HB hg; replace HB := vB HB hb; clear hb hbox hg) | ((with_reducible refine uJ (N := 2) rfl ?_); refine bxe 2 #[.slice none 0 0, .slice none 0 0] 31 ?_; intro gb110 hg w5 hbox hb; have BK110 := Aside0.mk (hbox); have GW110 := tGe HB hg; have GE110 := tGe HB hg; have NB109_110 := tNl BK109 hg; have NB110_109 := tNg BK109 hg; replace BK109 := uP BK109 hb; replace HB := vB HB hb; clear hb hbox hg))
  replace BK109 := Aside0.mk (uE BK109.out)
  replace BK110 := Aside0.mk (uE BK110.out)
  replace HB := Aside0.mk (vM HB.out)
  refine start_ (n := 10) (S := fun w' => w'.cell? ⟨gb109, 0, none⟩ = some (.slice A0_0 l0_0.length c0_0) ∧ w'.cell? ⟨gb109, 1, none⟩ = some (.slice A0_1 l0_1.length c0_1)) (ds := []) #[false, false, false, false, false, false, false, false, false, false] (by kernel_rfl) rfl rfl ⟨(uB BK109.out 0).trans rfl, (uB BK109.out 1).trans rfl⟩ (fun hHeld => ?_); refine with_tabW spec_l4Copy.tab1 spec_l4Copy.bits1 (fun HT_ HW_ => ?_)
  generalize w5.drew = w6 at BK109 BK110 HB hHeld ⊢
  refine vR 1 (some 4) #[false, true, false, false, false, false, false, false, false, false] ?_
  refine vR 5 (some 8) #[false, true, false, false, false, true, false, false, false, false] ?_
  refine takeT 2 (some 5) #[false, true, true, false, false, true, false, false, false, false] ?_
  refine takeT 6 (some 9) #[false, true, true, false, false, true, true, false, false, false] ?_
  refine join_ (σ := Value × Value × Value) 3 tb13 (fun s_ => [(3, s_.1), (6, s_.2.1), (7, s_.2.2)]) (fun s_ w' => (w'.cell? ⟨gb109, 0, none⟩ = some (.slice A0_0 l0_0.length c0_0) ∧ w'.cell? ⟨gb109, 1, none⟩ = some (.slice A0_1 l0_1.length c0_1)) ∧ (Kd.R (Kd.int .i64) 3 w' w.heap.size (fun _ => True) s_.2.1 y114) ∧ (Kd.R k49 49 w' w.heap.size (fun _ => True) s_.2.2 y117) ∧ (w'.heap[gb109]? = some (.cells #[.slice A0_0 l0_0.length c0_0, .slice A0_1 l0_1.length c0_1] 31 (0, 0))) ∧ (w'.heap[gb110]? = some (.cells #[.slice none 0 0, .slice none 0 0] 31 (0, 0))) ∧ (Below w.heap.size w w')) ?_ ?_
  rotate_left
  · intro hCont
    refine two_ (i := 0) (j := 4) (Ni := some 3) (Nj := some 7) #[true, true, true, false, false, true, true, false, false, false] #[false, true, true, false, true, true, true, false, false, false] rfl rfl rfl rfl (two_of HT_.out (by kernel_rfl)) (by decide) (by decide) (fun K hK => ?_) (fun K hK => ?_)
    · skip
      refine Kd.R_lit_step (Kd.int .i64) _ 3 ?hg (N := 3) ?hd (xs := ([] : List Int)) (inner := []) (ok := fun _ => True) (okp := fun _ => True) ?hr ?hp (fun _ hk => hk) trivial (Below.refl _ _) (Nat.le_refl _) (by simp) ?_; (case hd => rfl); (case hg => rfl); (case hr => first | (go_simp; done) | (go_simp; rfl)); (case hp => exact (vN.none _ _))
      intro v112 w7 ho8 hb hg_ hnew_
      clear hg_ hnew_
      (first | rw [← Ny111.out] at ho8 | (simp only [Int.reduceToNat] at ho8; rw [← Ny111.out] at ho8))
      have HO113 := Aside0.mk (Kd.uS ho8 (uO vA))
      replace BK109 := uP BK109 hb
      replace BK110 := uP BK110 hb
      replace HB := vB HB hb
      clear hb ho8
      refine hK.out _ _ ⟨(uB BK109.out 0).trans rfl, (uB BK109.out 1).trans rfl⟩ (fun hHeld => ?_)
      clear hK K
      refine vL (some 3) ?_
      refine two_ (i := 3) (j := 4) (Ni := some 6) (Nj := some 7) #[true, true, true, true, false, true, true, false, false, false] tb44 rfl rfl rfl rfl (two_of HT_.out (by kernel_rfl)) (by decide) (by decide) (fun K hK => ?_) (fun K hK => ?_)
      · skip
        refine Kd.vZ (Kd.int .i64) (w0 := w) w.heap.size (by rfl) (.tmp 3) (.tmp 5) 22 3 (.int .i64 0) 8 rfl Try.underlying22 info3 rfl (by decide) (by omega) v112 y111 l0_0 _ _ _ (fun _ => True) (fun _ => False) rfl rfl ?aO ?aR (fun _ _ h => h) (fun _ h => h.elim) ?aF ?aB ?aS ?aL ?_
        (case aR => exact cq50)
        (case aB => exact cq25)
        (case aF => exact (fun _ _ => trivial))
        (case aO => exact (uZ HO113.out))
        (case aS => exact cq23)
        (case aL => have := LMc2.out; omega)
        intro v115 w9 ho hb hg hat
        rw [← Ny114.out] at ho
        have n0_ := tGr BK109 hg (Kd.R_ne HO113.out BK109.out (by decide))
        have n1_ := tGr BK110 hg (Kd.R_ne HO113.out BK110.out (by decide))
        have n2_ := Aside0.mk (hb)
        have n3_ := Aside0.mk (ho)
        clear BK109
        clear BK110
        clear HB
        clear HO113
        have BK109 := n0_
        have BK110 := n1_
        have HB := n2_
        have HO116 := n3_
        clear n0_ n1_ n2_ n3_
        clear ho hb hg hat
        refine hK.out _ _ ⟨(uB BK109.out 0).trans rfl, (uB BK109.out 1).trans rfl⟩ (fun hHeld => ?_)
        clear hK K
        refine vL (some 6) ?_
        refine oneT 4 (some 7) tb13 (fun K hK => ?_)
        refine Kd.R_lit_step k49 _ 49 ?hg (N := 7) ?hd (xs := ([] : List (S49))) (inner := []) (ok := fun _ => True) (okp := fun _ => True) ?hr ?hp (fun _ hk => hk) trivial (Below.refl _ _) (Nat.le_refl _) (by simp) ?_; (case hd => rfl); (case hg => rfl); (case hr => first | (go_simp; done) | (go_simp; rfl)); (case hp => exact (vN.none _ _))
        intro v118 w10 ho11 hb hg_ hnew_
        clear hg_ hnew_
        (first | rw [← Ny117.out] at ho11 | (simp only [Int.reduceToNat] at ho11; rw [← Ny117.out] at ho11))
        have HO119 := Aside0.mk (Kd.uS ho11 (uO vA))
        replace HO116 := Kd.tR HO116 hb
        replace BK109 := uP BK109 hb
        replace BK110 := uP BK110 hb
        replace HB := vB HB hb
        clear hb ho11
        refine hK.out _ _ ⟨(uB BK109.out 0).trans rfl, (uB BK109.out 1).trans rfl⟩ (fun hHeld => ?_)
        clear hK K
        refine vL (some 7) ?_
        exact vE cq45 (hCont (v112, v115, v118) _ ⟨hHeld, (uZ HO116.out), (uZ HO119.out), (rSB BK109.out), (rSB BK110.out), vA⟩)
      skip
      refine Kd.R_lit_step k49 _ 49 ?hg (N := 7) ?hd (xs := ([] : List (S49))) (inner := []) (ok := fun _ => True) (okp := fun _ => True) ?hr ?hp (fun _ hk => hk) trivial (Below.refl _ _) (Nat.le_refl _) (by simp) ?_; (case hd => rfl); (case hg => rfl); (case hr => first | (go_simp; done) | (go_simp; rfl)); (case hp => exact (vN.none _ _))
      intro v118 w9 ho10 hb hg_ hnew_
      clear hg_ hnew_
      (first | rw [← Ny117.out] at ho10 | (simp only [Int.reduceToNat] at ho10; rw [← Ny117.out] at ho10))
      have HO119 := Aside0.mk (Kd.uS ho10 (uO vA))
      replace HO113 := Kd.tR HO113 hb
      replace BK109 := uP BK109 hb
      replace BK110 := uP BK110 hb
      replace HB := vB HB hb
      clear hb ho10
      refine hK.out _ _ ⟨(uB BK109.out 0).trans rfl, (uB BK109.out 1).trans rfl⟩ (fun hHeld => ?_)
      clear hK K
      refine vL (some 7) ?_
      refine oneT 3 (some 6) tb13 (fun K hK => ?_)
      refine Kd.vZ (Kd.int .i64) (w0 := w) w.heap.size (by rfl) (.tmp 3) (.tmp 5) 22 3 (.int .i64 0) 8 rfl Try.underlying22 info3 rfl (by decide) (by omega) v112 y111 l0_0 _ _ _ (fun _ => True) (fun _ => False) rfl rfl ?aO ?aR (fun _ _ h => h) (fun _ h => h.elim) ?aF ?aB ?aS ?aL ?_
      (case aR => exact cq50)
      (case aB => exact cq25)
      (case aF => exact (fun _ _ => trivial))
      (case aO => exact (uZ HO113.out))
      (case aS => exact cq23)
      (case aL => have := LMc2.out; omega)
      intro v115 w11 ho hb hg hat
      rw [← Ny114.out] at ho
      have n0_ := tGr BK109 hg (Kd.R_ne HO113.out BK109.out (by decide))
      have n1_ := tGr BK110 hg (Kd.R_ne HO113.out BK110.out (by decide))
      have n2_ := Aside0.mk (Kd.R_over' (uZ HO119.out) (Kd.R_typed (uZ HO113.out)) (by decide) hg)
      have n3_ := Aside0.mk (hb)
      have n4_ := Aside0.mk (ho)
      clear BK109
      clear BK110
      clear HO119
      clear HB
      clear HO113
      have BK109 := n0_
      have BK110 := n1_
      have HO119 := n2_
      have HB := n3_
      have HO116 := n4_
      clear n0_ n1_ n2_ n3_ n4_
      clear ho hb hg hat
      refine hK.out _ _ ⟨(uB BK109.out 0).trans rfl, (uB BK109.out 1).trans rfl⟩ (fun hHeld => ?_)
      clear hK K
      refine vL (some 6) ?_
      exact vE cq45 (hCont (v112, v115, v118) _ ⟨hHeld, (uZ HO116.out), (uZ HO119.out), (rSB BK109.out), (rSB BK110.out), vA⟩)
    skip
    refine Kd.R_lit_step k49 _ 49 ?hg (N := 7) ?hd (xs := ([] : List (S49))) (inner := []) (ok := fun _ => True) (okp := fun _ => True) ?hr ?hp (fun _ hk => hk) trivial (Below.refl _ _) (Nat.le_refl _) (by simp) ?_; (case hd => rfl); (case hg => rfl); (case hr => first | (go_simp; done) | (go_simp; rfl)); (case hp => exact (vN.none _ _))
    intro v118 w7 ho8 hb hg_ hnew_
    clear hg_ hnew_
    (first | rw [← Ny117.out] at ho8 | (simp only [Int.reduceToNat] at ho8; rw [← Ny117.out] at ho8))
    have HO119 := Aside0.mk (Kd.uS ho8 (uO vA))
    replace BK109 := uP BK109 hb
    replace BK110 := uP BK110 hb
    replace HB := vB HB hb
    clear hb ho8
    refine hK.out _ _ ⟨(uB BK109.out 0).trans rfl, (uB BK109.out 1).trans rfl⟩ (fun hHeld => ?_)
    clear hK K
    refine vL (some 7) ?_
    refine oneT 0 (some 3) tb44 (fun K hK => ?_)
    refine Kd.R_lit_step (Kd.int .i64) _ 3 ?hg (N := 3) ?hd (xs := ([] : List Int)) (inner := []) (ok := fun _ => True) (okp := fun _ => True) ?hr ?hp (fun _ hk => hk) trivial (Below.refl _ _) (Nat.le_refl _) (by simp) ?_; (case hd => rfl); (case hg => rfl); (case hr => first | (go_simp; done) | (go_simp; rfl)); (case hp => exact (vN.none _ _))
    intro v112 w9 ho10 hb hg_ hnew_
    clear hg_ hnew_
    (first | rw [← Ny111.out] at ho10 | (simp only [Int.reduceToNat] at ho10; rw [← Ny111.out] at ho10))
    have HO113 := Aside0.mk (Kd.uS ho10 (uO vA))
    replace HO119 := Kd.tR HO119 hb
    replace BK109 := uP BK109 hb
    replace BK110 := uP BK110 hb
    replace HB := vB HB hb
    clear hb ho10
    refine hK.out _ _ ⟨(uB BK109.out 0).trans rfl, (uB BK109.out 1).trans rfl⟩ (fun hHeld => ?_)
    clear hK K
    refine vL (some 3) ?_
    refine oneT 3 (some 6) tb13 (fun K hK => ?_)
    refine Kd.vZ (Kd.int .i64) (w0 := w) w.heap.size (by rfl) (.tmp 3) (.tmp 5) 22 3 (.int .i64 0) 8 rfl Try.underlying22 info3 rfl (by decide) (by omega) v112 y111 l0_0 _ _ _ (fun _ => True) (fun _ => False) rfl rfl ?aO ?aR (fun _ _ h => h) (fun _ h => h.elim) ?aF ?aB ?aS ?aL ?_
    (case aR => exact cq50)
    (case aB => exact cq25)
    (case aF => exact (fun _ _ => trivial))
    (case aO => exact (uZ HO113.out))
    (case aS => exact cq23)
    (case aL => have := LMc2.out; omega)
    intro v115 w11 ho hb hg hat
    rw [← Ny114.out] at ho
    have n0_ := tGr BK109 hg (Kd.R_ne HO113.out BK109.out (by decide))
    have n1_ := tGr BK110 hg (Kd.R_ne HO113.out BK110.out (by decide))
    have n2_ := Aside0.mk (Kd.R_over' (uZ HO119.out) (Kd.R_typed (uZ HO113.out)) (by decide) hg)
    have n3_ := Aside0.mk (hb)
    have n4_ := Aside0.mk (ho)
    clear BK109
    clear BK110
    clear HO119
    clear HB
    clear HO113
    have BK109 := n0_
    have BK110 := n1_
    have HO119 := n2_
    have HB := n3_
    have HO116 := n4_
    clear n0_ n1_ n2_ n3_ n4_
    clear ho hb hg hat
    refine hK.out _ _ ⟨(uB BK109.out 0).trans rfl, (uB BK109.out 1).trans rfl⟩ (fun hHeld => ?_)
    clear hK K
    refine vL (some 6) ?_
    exact vE cq45 (hCont (v112, v115, v118) _ ⟨hHeld, (uZ HO116.out), (uZ HO119.out), (rSB BK109.out), (rSB BK110.out), vA⟩)
  rintro ⟨v112, v115, v118⟩ w12 ⟨hS_, h0_, h1_, h2_, h3_, h4_⟩
  have n0_ : Aside0 (Kd.R (Kd.int .i64) 3 w12 w.heap.size (fun _ => True) v115 y114) := ⟨h0_⟩
  have n1_ : Aside0 (Kd.R k49 49 w12 w.heap.size (fun _ => True) v118 y117) := ⟨h1_⟩
  have n2_ : Aside0 (w12.heap[gb109]? = some (.cells #[.slice A0_0 l0_0.length c0_0, .slice A0_1 l0_1.length c0_1] 31 (0, 0))) := ⟨h2_⟩
  have n3_ : Aside0 (w12.heap[gb110]? = some (.cells #[.slice none 0 0, .slice none 0 0] 31 (0, 0))) := ⟨h3_⟩
  have n4_ : Aside0 (Below w.heap.size w w12) := ⟨h4_⟩
  clear BK109
  clear BK110
  clear HB
  clear h0_ h1_ h2_ h3_ h4_
  have HO116 := n0_
  have HO119 := n1_
  have BK109 := n2_
  have BK110 := n3_
  have HB := n4_
  clear n0_ n1_ n2_ n3_ n4_
  have hHeld : w12.cell? ⟨gb109, 0, none⟩ = some (.slice A0_0 l0_0.length c0_0) ∧ w12.cell? ⟨gb109, 1, none⟩ = some (.slice A0_1 l0_1.length c0_1) := hS_
  refine vE (a' := ?_) ?_ ?_
  rotate_left
  · simp only [putAll, Act.put, yA, yB, yC]
    rfl
  refine oneT 7 (some 10) #[true, true, true, true, true, true, true, true, false, false] (fun K hK => ?_)
  refine Kd.vZ k49 (w0 := w) w.heap.size (by rfl) (.tmp 7) (.tmp 9) 29 49 (.agg #[(.int .i64 0), (.int .i64 0), (.bool false), (.int .i64 0)]) 32 rfl Try.underlying29 info49 rfl (by decide) (by omega) v118 y117 l0_1 _ _ _ (fun _ => True) (fun _ => False) rfl rfl ?aO ?aR (fun _ _ h => h) (fun _ h => h.elim) ?aF ?aB ?aS ?aL ?_
  (case aR => repeat (first | exact (Kd.vC HR0_1.out HB.out) | (with_reducible refine Kd.vW ?_ _) | (with_reducible refine Kd.vV ?_ _) | (with_reducible refine Kd.C_drew ?_)))
  (case aB => exact cq25)
  (case aF => exact (fun _ _ => trivial))
  (case aO => exact (uZ HO119.out))
  (case aS => exact cq23)
  (case aL => have := LMc3.out; omega)
  intro v121 w13 ho hb hg hat
  rw [← Ny120.out] at ho
  have n0_ := tGr BK109 hg (Kd.R_ne HO119.out BK109.out (by decide))
  have n1_ := tGr BK110 hg (Kd.R_ne HO119.out BK110.out (by decide))
  have n2_ := Aside0.mk (Kd.R_over' (uZ HO116.out) (Kd.R_typed (uZ HO119.out)) (by decide) hg)
  have n3_ := Aside0.mk (hb)
  have n4_ := Aside0.mk (ho)
  clear BK109
  clear BK110
  clear HO116
  clear HB
  clear HO119
  have BK109 := n0_
  have BK110 := n1_
  have HO116 := n2_
  have HB := n3_
  have HO122 := n4_
  clear n0_ n1_ n2_ n3_ n4_
  clear ho hb hg hat
  obtain ⟨Ao14, co14, eo14⟩ := Kd.uY HO122.out
  (first | subst eo14 | (injection eo14 with f1_ f2_ f3_; have f4_ := f1_.symm; have f5_ := f3_.symm; clear f1_ f2_ f3_; subst f4_; subst f5_))
  obtain ⟨Ao15, co15, eo15⟩ := Kd.uY HO116.out
  (first | subst eo15 | (injection eo15 with f1_ f2_ f3_; have f4_ := f1_.symm; have f5_ := f3_.symm; clear f1_ f2_ f3_; subst f4_; subst f5_))
  refine hK.out _ _ ⟨(uB BK109.out 0).trans rfl, (uB BK109.out 1).trans rfl⟩ (fun hHeld => ?_)
  clear hK K
  refine vL (some 10) ?_
  refine vR 8 (some 11) #[true, true, true, true, true, true, true, true, true, false] ?_
  refine one_ (i := 9) (N := none) #[true, true, true, true, true, true, true, true, true, true] rfl rfl (one_of HT_.out (by kernel_rfl)) (by decide) (fun K hK => ?_)
  have hs16 : w13.cell? ⟨gb110, 0, none⟩ = some (.slice none 0 0) := (uB BK110.out 0).trans rfl
  have hfs16 := vK BK110.out 0
  have hns16_0 := NB109_110.out
  have hms16_0 := NB110_109.out
  have hs17 : w13.cell? ⟨gb110, 1, none⟩ = some (.slice none 0 0) := (uB BK110.out 1).trans rfl
  have hfs17 := vK BK110.out 1
  have hns17_0 := NB109_110.out
  have hms17_0 := NB110_109.out
  refine skip_ (w1 := ?_) (by rfl) rfl ?_ ?_
  rotate_left
  · go_simp
    rfl
  refine hK.out _ _ ⟨((uU (p := ⟨gb110, _, none⟩) NB109_110.out _).trans (((uU (p := ⟨gb110, _, none⟩) NB109_110.out _).trans (hHeld.1)))), ((uU (p := ⟨gb110, _, none⟩) NB109_110.out _).trans (((uU (p := ⟨gb110, _, none⟩) NB109_110.out _).trans (hHeld.2))))⟩ (fun hHeld => ?_)
  clear hK K
  refine done_ (done_of HT_.out (by kernel_rfl)) ?_
  try go_wp2
  refine bodyPost_ret (results_cell_row rfl _ _ gb110 31 #[.slice Ao15 y114.length co15, .slice Ao14 y120.length co14] (0, 0) _ rfl (by (with_reducible repeat (first | refine uC ?_ _ | refine uE ?_ | refine uD ?_ _)); refine uL (cs := #[.slice Ao15 y114.length co15, .slice none 0 0]) ?_ 1 _ rfl; (with_reducible repeat (first | refine uC ?_ _ | refine uE ?_ | refine uD ?_ _)); refine uL (cs := #[.slice none 0 0, .slice none 0 0]) ?_ 0 _ rfl; (with_reducible repeat (first | refine uC ?_ _ | refine uE ?_ | refine uD ?_ _)); exact BK110.out) Try.underlying31 rfl (by kernel_rfl)) rfl ?_
  exact ⟨_, _, cq3, by (with_reducible repeat (first | apply Kd.uQ | apply Kd.uR | apply Kd.uV)); exact Kd.uN (Kd.uM (p := ⟨gb110, 1, none⟩) (Kd.uM (p := ⟨gb110, 0, none⟩) (Kd.vG HO116.out BK110.out (by decide)) (fun _ hk => hk.2) (.slice Ao15 y114.length co15)) (fun _ hk => hk.2) (.slice Ao14 y120.length co14)) (fun _ hk => trivial), by (with_reducible repeat (first | apply Kd.uQ | apply Kd.uR | apply Kd.uV)); exact Kd.uN (Kd.uM (p := ⟨gb110, 1, none⟩) (Kd.uM (p := ⟨gb110, 0, none⟩) (Kd.vG HO122.out BK110.out (by decide)) (fun _ hk => hk.2) (.slice Ao15 y114.length co15)) (fun _ hk => hk.2) (.slice Ao14 y120.length co14)) (fun _ hk => trivial), vA⟩

/-! ### spec_l1In: function 66 -/
def spec_l1In.f (a0 : Int) (a1 : Int) (a2 : Int) : Option (Bool) := if a0 ≥ a1 then (some (decide (a0 ≤ a2))) else (some false)
set_option maxHeartbeats 8000000 in
set_option maxRecDepth 100000 in
theorem spec_l1In.calls (a0 : Int) (a1 : Int) (a2 : Int) (r : Bool) (w : World) (h : spec_l1In.f a0 a1 a2 = some r) :
    Calls Try.prog 66 #[.int .i64 a0, .int .i64 a1, .int .i64 a2] w fun e w' => e = .returned (.bool r) ∧ Drawn0 w w' := by
  have H : (if a0 ≥ a1 then (some (decide (a0 ≤ a2))) else (some false)) = some r := h
  clear h
  by_cases c4 : a0 ≥ a1
  · rw [if_pos c4] at H
    have c4b0 := decide_eq_true c4
    clear c4
    obtain rfl := Option.some.inj H
    go_enter Try.func66, Try.ntmps66
    go_wp2
    go_ret
    exact ⟨cq15, cq37⟩
  rw [if_neg c4] at H
  have c4b0 := decide_eq_false c4
  clear c4
  obtain rfl := Option.some.inj H
  go_enter Try.func66, Try.ntmps66
  go_wp2
  go_ret
  exact ⟨cq15, cq37⟩

end Go.Proofs.Ytcikahnmiiichaa.N
