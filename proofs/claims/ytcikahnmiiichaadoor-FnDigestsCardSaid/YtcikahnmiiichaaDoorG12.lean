/- Go functions as Lean functions, and the proof that the code comes to them: written by a program of this session out of the translation. -/
import Derived.Test.YtcikahnmiiichaaDoorG0
import Derived.Test.YtcikahnmiiichaaDoorG2
import Derived.Test.YtcikahnmiiichaaDoorG3
import Derived.Test.YtcikahnmiiichaaDoorG6
import Derived.Test.YtcikahnmiiichaaDoorG7
import Derived.Test.YtcikahnmiiichaaDoorG8
import Derived.Test.YtcikahnmiiichaaDoorG10
import Derived.Test.YtcikahnmiiichaaDoorG11
namespace Go.Proofs.YtcikahnmiiichaaDoor.G
open List renaming setIfInBounds_toArray → uY, set_cons_zero → uZ, set_cons_succ → vA
open Go.World renaming block_lt_of_cell? → vE
open Go.Proofs.YtcikahnmiiichaaDoor.Given
open Go.RowKit Go.Proofs.YtcikahnmiiichaaDoorW.PrintWords Go.Proofs.YtcikahnmiiichaaDoorW.PrintLast Go.Proofs.YtcikahnmiiichaaDoorW.PrintMore
attribute [local go_sem] max2_int min2_int max_two min_two max_three min_three max_four min_four   -- for this text's walks alone
set_option linter.unusedVariables false
set_option linter.unusedSimpArgs false

/-! ### impl_DigestOf: function 19 -/
def impl_DigestOf.f (k : Nat) (l0 : List (S66)) (a1 : Int) : Option (Int) := (impl_DigestList.f k l0).bind fun t446 => ((impl_within.f a1 0 (wrap64 ((t446.length : Int) - 1))).bind fun t449 => (if t449 = true then (if 0 ≤ a1 then (if a1 < (t446.length : Int) then (some (rd t446 a1)) else (none)) else (none)) else (some (-1))))
theorem impl_DigestOf.mono : ∀ a0 a1 k, uF (impl_DigestOf.f k a0 a1) (impl_DigestOf.f (k + 1) a0 a1) := by
  intro a0 a1 k
  unfold impl_DigestOf.f
  repeat' first
      | (with_reducible exact impl_DigestList.mono _ _)
      | (with_reducible exact uF.refl _)
      | (with_reducible exact uF.none _)
      | (with_reducible refine uF.ite ?_ ?_)
      | (with_reducible refine uF.bind ?_ (fun _ => ?_))
      | exact impl_DigestList.mono _ _
      | exact uF.none _
      | refine uF.ite ?_ ?_
      | refine uF.bind ?_ (fun _ => ?_)
set_option maxHeartbeats 8000000 in
set_option maxRecDepth 100000 in
theorem impl_DigestOf.calls (k : Nat) (A0 : Option Addr) (c0 : Nat) (l0 : List (S66)) (a1 : Int) (r : Int) (w : World) (hr0 : Kd.C k66 w A0 l0.length l0) (hc0 : l0.length ≤ c0) (hWF : WF w) (h : impl_DigestOf.f k l0 a1 = some r) :
    Calls Tryd.prog 19 #[.slice A0 l0.length c0, .int .i64 a1] w fun e w' => e = .returned (.int .i64 r) ∧ Below w.heap.size w w' := by
  have HR0 := Aside0.mk hr0
  have HC0 := Aside0.mk hc0
  clear hr0 hc0
  have HB := Aside0.mk (Below.refl w.heap.size w)
  have H : ((impl_DigestList.f k l0).bind fun t446 => ((impl_within.f a1 0 (wrap64 ((t446.length : Int) - 1))).bind fun t449 => (if t449 = true then (if 0 ≤ a1 then (if a1 < (t446.length : Int) then (some (rd t446 a1)) else (none)) else (none)) else (some (-1))))) = some r := h
  clear h
  replace H := Option.bind_eq_some_iff.mp H
  obtain ⟨t446, A30, H⟩ := H
  try dsimp only at H
  have A3 := Aside0.mk A30
  clear A30
  replace H := Option.bind_eq_some_iff.mp H
  obtain ⟨t449, A40, H⟩ := H
  try dsimp only at H
  have A4 := Aside0.mk A40
  clear A40
  go_enter Tryd.func19, Tryd.ntmps19
  go_wp2_with (first | ((with_reducible refine uE (f := 9) rfl ?_); refine uL (some 7) Tryd.func9 #[.slice A0 l0.length c0] ?_; (with_reducible refine (impl_DigestList.calls k _ _ l0 t446 _ ?side1 ?side2 ?side3 A3.out).mono ?_); (case side1 => exact q14); (case side2 => exact HC0.out); (case side3 => exact q28); rintro e w10 ⟨v447, rfl, ho0, hb⟩; refine ⟨_, rfl, ?_⟩; have HO448 := Aside0.mk (Kd.uX ho0 (uU q0)); replace HB := uQ HB hb; (try clear hb); (try clear hb2); (try clear hk); (try clear hi); (try clear ho0); obtain ⟨Ao11, co11, eo11⟩ := Kd.R_slice HO448.out; subst eo11; refine ?roundEnd))
  case roundEnd =>
  by_cases c5 : t449 = true
  rotate_left
  · replace c5 := Bool.eq_false_iff.mpr c5
    subst c5
    try rw [if_neg (show ¬ (false = true) by decide)] at H
    obtain rfl := Option.some.inj H
    go_wp2_with (first | ((with_reducible refine uE (f := 55) rfl ?_); refine uL (some 12) Tryd.func55 #[.int .i64 a1, .int .i64 0, .int .i64 (wrap64 ((t446.length : Int) - 1))] ?_; (with_reducible refine (impl_within.calls a1 0 (wrap64 ((t446.length : Int) - 1)) false _ A4.out).mono ?_); rintro e w' ⟨rfl, ⟨nd, rfl⟩⟩; refine ⟨_, rfl, ?_⟩))
    go_ret
    exact ⟨q2, q0⟩
  subst c5
  try rw [if_pos rfl] at H
  by_cases c6 : 0 ≤ a1
  rotate_left
  · rw [if_neg c6] at H
    exact absurd H (by simp)
  rw [if_pos c6] at H
  have c6b0 : decide (0 ≤ a1) = true := decide_eq_true c6
  clear c6
  by_cases c7 : a1 < (t446.length : Int)
  rotate_left
  · rw [if_neg c7] at H
    exact absurd H (by simp)
  rw [if_pos c7] at H
  have c7b0 : decide (a1 < (t446.length : Int)) = true := decide_eq_true c7
  clear c7
  obtain rfl := Option.some.inj H
  go_wp2_with (first | ((with_reducible refine uE (f := 55) rfl ?_); refine uL (some 12) Tryd.func55 #[.int .i64 a1, .int .i64 0, .int .i64 (wrap64 ((t446.length : Int) - 1))] ?_; (with_reducible refine (impl_within.calls a1 0 (wrap64 ((t446.length : Int) - 1)) true _ A4.out).mono ?_); rintro e w' ⟨rfl, ⟨nd, rfl⟩⟩; refine ⟨_, rfl, ?_⟩; have p450 : 0 ≤ (a1 : Int) := of_decide_eq_true q9; have q450 : a1 < (t446.length : Int) := of_decide_eq_true q9; obtain ⟨ad450, e450, hx450_0⟩ := Kd.at_int (Kd.uM HO448.out).2.2 a1 p450 q450; cases e450; replace p450 := eq_true p450; replace q450 := eq_true q450))
  go_ret
  exact ⟨q2, q0⟩

/-! ### impl_ProvesPrefix: function 17 -/
def impl_ProvesPrefix.f (k : Nat) (l0 : List (S66)) (a1 : Int) (a2 : Int) : Option (Bool) := if a2 ≥ 0 then ((impl_DigestOf.f k l0 a1).bind fun t451 => (some (t451 == a2))) else (some false)
theorem impl_ProvesPrefix.mono : ∀ a0 a1 a2 k, uF (impl_ProvesPrefix.f k a0 a1 a2) (impl_ProvesPrefix.f (k + 1) a0 a1 a2) := by
  intro a0 a1 a2 k
  unfold impl_ProvesPrefix.f
  repeat' first
      | (with_reducible exact impl_DigestOf.mono _ _ _)
      | (with_reducible exact uF.refl _)
      | (with_reducible exact uF.none _)
      | (with_reducible refine uF.ite ?_ ?_)
      | (with_reducible refine uF.bind ?_ (fun _ => ?_))
      | exact impl_DigestOf.mono _ _ _
      | exact uF.none _
      | refine uF.ite ?_ ?_
      | refine uF.bind ?_ (fun _ => ?_)
set_option maxHeartbeats 8000000 in
set_option maxRecDepth 100000 in
theorem impl_ProvesPrefix.calls (k : Nat) (A0 : Option Addr) (c0 : Nat) (l0 : List (S66)) (a1 : Int) (a2 : Int) (r : Bool) (w : World) (hr0 : Kd.C k66 w A0 l0.length l0) (hc0 : l0.length ≤ c0) (hWF : WF w) (h : impl_ProvesPrefix.f k l0 a1 a2 = some r) :
    Calls Tryd.prog 17 #[.slice A0 l0.length c0, .int .i64 a1, .int .i64 a2] w fun e w' => e = .returned (.bool r) ∧ Below w.heap.size w w' := by
  have HR0 := Aside0.mk hr0
  have HC0 := Aside0.mk hc0
  clear hr0 hc0
  have HB := Aside0.mk (Below.refl w.heap.size w)
  have H : (if a2 ≥ 0 then ((impl_DigestOf.f k l0 a1).bind fun t451 => (some (t451 == a2))) else (some false)) = some r := h
  clear h
  by_cases c4 : a2 ≥ 0
  rotate_left
  · rw [if_neg c4] at H
    have c4b0 : decide (0 ≤ a2) = false := decide_eq_false c4
    clear c4
    obtain rfl := Option.some.inj H
    go_enter Tryd.func17, Tryd.ntmps17
    go_wp2
    go_ret
    exact ⟨q2, q0⟩
  rw [if_pos c4] at H
  have c4b0 : decide (0 ≤ a2) = true := decide_eq_true c4
  clear c4
  replace H := Option.bind_eq_some_iff.mp H
  obtain ⟨t451, A50, H⟩ := H
  try dsimp only at H
  have A5 := Aside0.mk A50
  clear A50
  obtain rfl := Option.some.inj H
  go_enter Tryd.func17, Tryd.ntmps17
  go_wp2_with (first | (go_at_call 19; (with_reducible refine (impl_DigestOf.calls k _ _ l0 a1 t451 _ ?side1 ?side2 ?side3 A5.out).mono ?_); (case side1 => exact q14); (case side2 => exact HC0.out); (case side3 => exact q28); rintro e w6 ⟨rfl, hb⟩; replace HB := uQ HB hb; (try clear hb); (try clear hb2); (try clear hk); (try clear hi)))
  go_ret
  exact ⟨q2, q0⟩

/-! ### spec_ProvesPrefix: function 18 -/
def spec_ProvesPrefix.f (k : Nat) (l0 : List (S66)) (a1 : Int) (a2 : Int) : Option (Bool) := if a2 ≥ 0 then ((spec_DigestOf.f k l0 a1).bind fun t452 => (some (t452 == a2))) else (some false)
theorem spec_ProvesPrefix.mono : ∀ a0 a1 a2 k, uF (spec_ProvesPrefix.f k a0 a1 a2) (spec_ProvesPrefix.f (k + 1) a0 a1 a2) := by
  intro a0 a1 a2 k
  unfold spec_ProvesPrefix.f
  repeat' first
      | (with_reducible exact spec_DigestOf.mono _ _ _)
      | (with_reducible exact uF.refl _)
      | (with_reducible exact uF.none _)
      | (with_reducible refine uF.ite ?_ ?_)
      | (with_reducible refine uF.bind ?_ (fun _ => ?_))
      | exact spec_DigestOf.mono _ _ _
      | exact uF.none _
      | refine uF.ite ?_ ?_
      | refine uF.bind ?_ (fun _ => ?_)
set_option maxHeartbeats 8000000 in
set_option maxRecDepth 100000 in
theorem spec_ProvesPrefix.calls (k : Nat) (A0 : Option Addr) (c0 : Nat) (l0 : List (S66)) (a1 : Int) (a2 : Int) (r : Bool) (w : World) (hr0 : Kd.C k66 w A0 l0.length l0) (hc0 : l0.length ≤ c0) (h : spec_ProvesPrefix.f k l0 a1 a2 = some r) :
    Calls Tryd.prog 18 #[.slice A0 l0.length c0, .int .i64 a1, .int .i64 a2] w fun e w' => e = .returned (.bool r) ∧ Below w.heap.size w w' := by
  have HR0 := Aside0.mk hr0
  have HC0 := Aside0.mk hc0
  clear hr0 hc0
  have HB := Aside0.mk (Below.refl w.heap.size w)
  have H : (if a2 ≥ 0 then ((spec_DigestOf.f k l0 a1).bind fun t452 => (some (t452 == a2))) else (some false)) = some r := h
  clear h
  by_cases c4 : a2 ≥ 0
  rotate_left
  · rw [if_neg c4] at H
    have c4b0 : decide (0 ≤ a2) = false := decide_eq_false c4
    clear c4
    obtain rfl := Option.some.inj H
    go_enter Tryd.func18, Tryd.ntmps18
    go_wp2
    go_ret
    exact ⟨q2, q0⟩
  rw [if_pos c4] at H
  have c4b0 : decide (0 ≤ a2) = true := decide_eq_true c4
  clear c4
  replace H := Option.bind_eq_some_iff.mp H
  obtain ⟨t452, A50, H⟩ := H
  try dsimp only at H
  have A5 := Aside0.mk A50
  clear A50
  obtain rfl := Option.some.inj H
  go_enter Tryd.func18, Tryd.ntmps18
  go_wp2_with (first | (go_at_call 20; (with_reducible refine (spec_DigestOf.calls k _ _ l0 a1 t452 _ ?side1 ?side2 A5.out).mono ?_); (case side1 => exact q14); (case side2 => exact HC0.out); rintro e w6 ⟨rfl, hb⟩; replace HB := uQ HB hb; (try clear hb); (try clear hb2); (try clear hk); (try clear hi)))
  go_ret
  exact ⟨q2, q0⟩

/-! ### laws_FnDigests: function 3 -/
mutual
def laws_FnDigests.j0 : Nat → List Int → List (S66) → List (S66) → List Int → List Int → Bool → Option (Bool)
  | 0, _, _, _, _, _, _ => none
  | k + 1, x0, x3, x4, x5, x6, x34 => if x34 = true then (some false) else ((spec_CommonPrefix.f k x3 x4).bind fun t474 => ((impl_FirstDifference.f k x5 x6).bind fun t475 => ((spec_FirstDifference.f k x5 x6).bind fun t476 => (if t475 = t476 then ((spec_IsLog.f k x3).bind fun t477 => (if t477 = true then ((spec_IsLog.f k x4).bind fun t478 => (if t478 = true then (if t475 ≥ 0 then (laws_FnDigests.j1 k x0 (decide (t475 ≤ t474))) else (laws_FnDigests.j1 k x0 false)) else (laws_FnDigests.j1 k x0 false))) else (laws_FnDigests.j1 k x0 false))) else (laws_FnDigests.j1 k x0 true)))))
def laws_FnDigests.j1 : Nat → List Int → Bool → Option (Bool)
  | 0, _, _ => none
  | k + 1, x0, x62 => if x62 = true then (some false) else ((spec_DrawProvesPrefix.f k x0).bind fun bt479 => ((impl_ProvesPrefix.f k bt479.1 bt479.2.1 bt479.2.2).bind fun t484 => ((spec_ProvesPrefix.f k bt479.1 bt479.2.1 bt479.2.2).bind fun t485 => (if (t484 == t485) = true then ((impl_DigestOf.f k bt479.1 bt479.2.1).bind fun t486 => ((spec_DigestOf.f k bt479.1 bt479.2.1).bind fun t487 => (if t486 = t487 then ((spec_IsLog.f k bt479.1).bind fun t488 => (if t488 = true then (if bt479.2.1 > (bt479.1.length : Int) then (some true) else ((impl_DigestOf.f k bt479.1 bt479.2.1).bind fun t489 => ((impl_ProvesPrefix.f k bt479.1 bt479.2.1 t489).bind fun t490 => (some t490)))) else (some true))) else (some false)))) else (some false)))))
end
def laws_FnDigests.f (k : Nat) (l0 : List Int) : Option (Bool) := (laws_big.f l0).bind fun t453 => (if t453 = true then (some true) else ((spec_DrawCommonPrefix.f k l0).bind fun bt454 => ((impl_DigestList.f k bt454.1).bind fun t460 => ((impl_DigestList.f k bt454.2).bind fun t463 => ((spec_DigestList.f k bt454.1).bind fun t466 => ((laws_sameInts.f k t460 t466).bind fun t469 => (if t469 = true then ((spec_DigestList.f k bt454.2).bind fun t470 => ((laws_sameInts.f k t463 t470).bind fun t473 => (laws_FnDigests.j0 k l0 bt454.1 bt454.2 t460 t463 (!t473)))) else (laws_FnDigests.j0 k l0 bt454.1 bt454.2 t460 t463 true))))))))
theorem laws_FnDigests.mono_l : ∀ k, (∀ y0 y1 y2 y3 y4 y5, uF (laws_FnDigests.j0 k y0 y1 y2 y3 y4 y5) (laws_FnDigests.j0 (k + 1) y0 y1 y2 y3 y4 y5)) ∧ (∀ y0 y1, uF (laws_FnDigests.j1 k y0 y1) (laws_FnDigests.j1 (k + 1) y0 y1))
  | 0 => ⟨fun _ _ _ _ _ _ r h => by simp [laws_FnDigests.j0] at h, fun _ _ r h => by simp [laws_FnDigests.j1] at h⟩
  | k + 1 => by
    obtain ⟨ih0, ih1⟩ := laws_FnDigests.mono_l k
    refine ⟨?_, ?_⟩
    · intro y0 y1 y2 y3 y4 y5
      unfold laws_FnDigests.j0
      repeat' first
      | (with_reducible exact ih0 _ _ _ _ _ _)
      | (with_reducible exact ih1 _ _)
      | (with_reducible exact impl_DigestList.mono _ _)
      | (with_reducible exact impl_DigestOf.mono _ _ _)
      | (with_reducible exact impl_FirstDifference.mono _ _ _)
      | (with_reducible exact impl_ProvesPrefix.mono _ _ _ _)
      | (with_reducible exact laws_sameInts.mono _ _ _)
      | (with_reducible exact spec_CommonPrefix.mono _ _ _)
      | (with_reducible exact spec_DigestList.mono _ _)
      | (with_reducible exact spec_DigestOf.mono _ _ _)
      | (with_reducible exact spec_DrawCommonPrefix.mono _ _)
      | (with_reducible exact spec_DrawProvesPrefix.mono _ _)
      | (with_reducible exact spec_FirstDifference.mono _ _ _)
      | (with_reducible exact spec_IsLog.mono _ _)
      | (with_reducible exact spec_ProvesPrefix.mono _ _ _ _)
      | (with_reducible exact uF.refl _)
      | (with_reducible exact uF.none _)
      | (with_reducible refine uF.ite ?_ ?_)
      | (with_reducible refine uF.bind ?_ (fun _ => ?_))
      | exact ih0 _ _ _ _ _ _
      | exact ih1 _ _
      | exact impl_DigestList.mono _ _
      | exact impl_DigestOf.mono _ _ _
      | exact impl_FirstDifference.mono _ _ _
      | exact impl_ProvesPrefix.mono _ _ _ _
      | exact laws_sameInts.mono _ _ _
      | exact spec_CommonPrefix.mono _ _ _
      | exact spec_DigestList.mono _ _
      | exact spec_DigestOf.mono _ _ _
      | exact spec_DrawCommonPrefix.mono _ _
      | exact spec_DrawProvesPrefix.mono _ _
      | exact spec_FirstDifference.mono _ _ _
      | exact spec_IsLog.mono _ _
      | exact spec_ProvesPrefix.mono _ _ _ _
      | exact uF.none _
      | refine uF.ite ?_ ?_
      | refine uF.bind ?_ (fun _ => ?_)
    intro y0 y1
    unfold laws_FnDigests.j1
    repeat' first
    | (with_reducible exact ih0 _ _ _ _ _ _)
    | (with_reducible exact ih1 _ _)
    | (with_reducible exact impl_DigestList.mono _ _)
    | (with_reducible exact impl_DigestOf.mono _ _ _)
    | (with_reducible exact impl_FirstDifference.mono _ _ _)
    | (with_reducible exact impl_ProvesPrefix.mono _ _ _ _)
    | (with_reducible exact laws_sameInts.mono _ _ _)
    | (with_reducible exact spec_CommonPrefix.mono _ _ _)
    | (with_reducible exact spec_DigestList.mono _ _)
    | (with_reducible exact spec_DigestOf.mono _ _ _)
    | (with_reducible exact spec_DrawCommonPrefix.mono _ _)
    | (with_reducible exact spec_DrawProvesPrefix.mono _ _)
    | (with_reducible exact spec_FirstDifference.mono _ _ _)
    | (with_reducible exact spec_IsLog.mono _ _)
    | (with_reducible exact spec_ProvesPrefix.mono _ _ _ _)
    | (with_reducible exact uF.refl _)
    | (with_reducible exact uF.none _)
    | (with_reducible refine uF.ite ?_ ?_)
    | (with_reducible refine uF.bind ?_ (fun _ => ?_))
    | exact ih0 _ _ _ _ _ _
    | exact ih1 _ _
    | exact impl_DigestList.mono _ _
    | exact impl_DigestOf.mono _ _ _
    | exact impl_FirstDifference.mono _ _ _
    | exact impl_ProvesPrefix.mono _ _ _ _
    | exact laws_sameInts.mono _ _ _
    | exact spec_CommonPrefix.mono _ _ _
    | exact spec_DigestList.mono _ _
    | exact spec_DigestOf.mono _ _ _
    | exact spec_DrawCommonPrefix.mono _ _
    | exact spec_DrawProvesPrefix.mono _ _
    | exact spec_FirstDifference.mono _ _ _
    | exact spec_IsLog.mono _ _
    | exact spec_ProvesPrefix.mono _ _ _ _
    | exact uF.none _
    | refine uF.ite ?_ ?_
    | refine uF.bind ?_ (fun _ => ?_)
theorem laws_FnDigests.mono : ∀ a0 k, uF (laws_FnDigests.f k a0) (laws_FnDigests.f (k + 1) a0) := by
  intro a0 k
  obtain ⟨ih0, ih1⟩ := laws_FnDigests.mono_l k
  unfold laws_FnDigests.f
  repeat' first
      | (with_reducible exact ih0 _ _ _ _ _ _)
      | (with_reducible exact ih1 _ _)
      | (with_reducible exact impl_DigestList.mono _ _)
      | (with_reducible exact impl_DigestOf.mono _ _ _)
      | (with_reducible exact impl_FirstDifference.mono _ _ _)
      | (with_reducible exact impl_ProvesPrefix.mono _ _ _ _)
      | (with_reducible exact laws_sameInts.mono _ _ _)
      | (with_reducible exact spec_CommonPrefix.mono _ _ _)
      | (with_reducible exact spec_DigestList.mono _ _)
      | (with_reducible exact spec_DigestOf.mono _ _ _)
      | (with_reducible exact spec_DrawCommonPrefix.mono _ _)
      | (with_reducible exact spec_DrawProvesPrefix.mono _ _)
      | (with_reducible exact spec_FirstDifference.mono _ _ _)
      | (with_reducible exact spec_IsLog.mono _ _)
      | (with_reducible exact spec_ProvesPrefix.mono _ _ _ _)
      | (with_reducible exact uF.refl _)
      | (with_reducible exact uF.none _)
      | (with_reducible refine uF.ite ?_ ?_)
      | (with_reducible refine uF.bind ?_ (fun _ => ?_))
      | exact ih0 _ _ _ _ _ _
      | exact ih1 _ _
      | exact impl_DigestList.mono _ _
      | exact impl_DigestOf.mono _ _ _
      | exact impl_FirstDifference.mono _ _ _
      | exact impl_ProvesPrefix.mono _ _ _ _
      | exact laws_sameInts.mono _ _ _
      | exact spec_CommonPrefix.mono _ _ _
      | exact spec_DigestList.mono _ _
      | exact spec_DigestOf.mono _ _ _
      | exact spec_DrawCommonPrefix.mono _ _
      | exact spec_DrawProvesPrefix.mono _ _
      | exact spec_FirstDifference.mono _ _ _
      | exact spec_IsLog.mono _ _
      | exact spec_ProvesPrefix.mono _ _ _ _
      | exact uF.none _
      | refine uF.ite ?_ ?_
      | refine uF.bind ?_ (fun _ => ?_)
set_option maxHeartbeats 8000000 in
set_option maxRecDepth 100000 in
theorem laws_FnDigests.calls (k : Nat) (A0 : Option Addr) (c0 : Nat) (l0 : List Int) (w : World) (hr0 : Kd.C (Kd.int .u8) w A0 l0.length l0) (hc0 : l0.length ≤ c0) (hWF : WF w) (h : laws_FnDigests.f k l0 = some true) :
    Calls Tryd.prog 3 #[.slice A0 l0.length c0] w fun e w' => e = .returned (.bool true) ∧ Below w.heap.size w w' := by
  have HR0 := Aside0.mk hr0
  have HC0 := Aside0.mk hc0
  clear hr0 hc0
  have HB := Aside0.mk (Below.refl w.heap.size w)
  have H : ((laws_big.f l0).bind fun t453 => (if t453 = true then (some true) else ((spec_DrawCommonPrefix.f k l0).bind fun bt454 => ((impl_DigestList.f k bt454.1).bind fun t460 => ((impl_DigestList.f k bt454.2).bind fun t463 => ((spec_DigestList.f k bt454.1).bind fun t466 => ((laws_sameInts.f k t460 t466).bind fun t469 => (if t469 = true then ((spec_DigestList.f k bt454.2).bind fun t470 => ((laws_sameInts.f k t463 t470).bind fun t473 => (laws_FnDigests.j0 k l0 bt454.1 bt454.2 t460 t463 (!t473)))) else (laws_FnDigests.j0 k l0 bt454.1 bt454.2 t460 t463 true))))))))) = some true := h
  clear h
  replace H := Option.bind_eq_some_iff.mp H
  obtain ⟨t453, A20, H⟩ := H
  try dsimp only at H
  have A2 := Aside0.mk A20
  clear A20
  by_cases c3 : t453 = true
  · subst c3
    try rw [if_pos rfl] at H
    go_enter Tryd.func3, Tryd.ntmps3
    go_wp2_with (first | ((with_reducible refine uE (f := 7) rfl ?_); refine uL (some 13) Tryd.func7 #[.slice A0 l0.length c0] ?_; (with_reducible refine (laws_big.calls _ _ l0 true _ ?side1 ?side2 A2.out).mono ?_); (case side1 => exact q14); (case side2 => exact HC0.out); rintro e w' ⟨rfl, ⟨nd, rfl⟩⟩; refine ⟨_, rfl, ?_⟩))
    go_ret
    exact ⟨q2, q0⟩
  replace c3 := Bool.eq_false_iff.mpr c3
  subst c3
  try rw [if_neg (show ¬ (false = true) by decide)] at H
  replace H := Option.bind_eq_some_iff.mp H
  obtain ⟨⟨t454, t455⟩, A40, H⟩ := H
  try dsimp only at H
  have A4 := Aside0.mk A40
  clear A40
  replace H := Option.bind_eq_some_iff.mp H
  obtain ⟨t460, A50, H⟩ := H
  try dsimp only at H
  have A5 := Aside0.mk A50
  clear A50
  replace H := Option.bind_eq_some_iff.mp H
  obtain ⟨t463, A60, H⟩ := H
  try dsimp only at H
  have A6 := Aside0.mk A60
  clear A60
  have HC7 := Aside0.mk H
  clear H
  go_enter Tryd.func3, Tryd.ntmps3
  go_upto_region 6 with (first | ((with_reducible refine uE (f := 7) rfl ?_); refine uL (some 13) Tryd.func7 #[.slice A0 l0.length c0] ?_; (with_reducible refine (laws_big.calls _ _ l0 false _ ?side1 ?side2 A2.out).mono ?_); (case side1 => exact q14); (case side2 => exact HC0.out); rintro e w' ⟨rfl, ⟨nd, rfl⟩⟩; refine ⟨_, rfl, ?_⟩) | ((with_reducible refine uE (f := 8) rfl ?_); refine uL (some 16) Tryd.func8 #[.slice A0 l0.length c0] ?_; (with_reducible refine (spec_DrawCommonPrefix.calls k _ _ l0 t454 t455 _ ?side1 ?side2 A4.out).mono ?_); (case side1 => exact q14); (case side2 => exact HC0.out); rintro e w8 ⟨v456, v458, rfl, ho0, ho1, hb⟩; refine ⟨_, rfl, ?_⟩; have HO457 := Aside0.mk (Kd.uX ho0 (uU q0)); have HO459 := Aside0.mk (Kd.uX ho1 (uU q0)); replace HB := uQ HB hb; (try clear hb); (try clear hb2); (try clear hk); (try clear hi); (try clear ho0); (try clear ho1); obtain ⟨Ao9, co9, eo9⟩ := Kd.R_slice HO457.out; subst eo9) | ((with_reducible refine uE (f := 9) rfl ?_); refine uL (some 20) Tryd.func9 #[.slice Ao9 t454.length co9] ?_; (with_reducible refine (impl_DigestList.calls k _ _ t454 t460 _ ?side1 ?side2 ?side3 A5.out).mono ?_); (case side1 => repeat (first | exact (Kd.uM HO457.out).2.2 | (with_reducible refine Kd.C_alloc ?_ _) | (with_reducible refine Kd.C_drewN ?_ _) | (with_reducible refine Kd.C_drew ?_))); (case side2 => exact (Kd.uM HO457.out).2.1); (case side3 => exact q28); rintro e w10 ⟨v461, rfl, ho0, hb⟩; refine ⟨_, rfl, ?_⟩; have HO462 := Aside0.mk (Kd.uX ho0 (uU q0)); replace HO457 := Kd.tR HO457 hb; replace HO459 := Kd.tR HO459 hb; replace HB := uQ HB hb; (try clear hb); (try clear hb2); (try clear hk); (try clear hi); (try clear ho0); obtain ⟨Ao11, co11, eo11⟩ := Kd.R_slice HO459.out; subst eo11) | ((with_reducible refine uE (f := 9) rfl ?_); refine uL (some 22) Tryd.func9 #[.slice Ao11 t455.length co11] ?_; (with_reducible refine (impl_DigestList.calls k _ _ t455 t463 _ ?side1 ?side2 ?side3 A6.out).mono ?_); (case side1 => repeat (first | exact (Kd.uM HO459.out).2.2 | (with_reducible refine Kd.C_alloc ?_ _) | (with_reducible refine Kd.C_drewN ?_ _) | (with_reducible refine Kd.C_drew ?_))); (case side2 => exact (Kd.uM HO459.out).2.1); (case side3 => exact q28); rintro e w12 ⟨v464, rfl, ho0, hb⟩; refine ⟨_, rfl, ?_⟩; have HO465 := Aside0.mk (Kd.uX (Kd.R_new' ho0 (Kd.R_lt (rSR HO462.out))) (uU q0)); replace HO457 := Kd.tR HO457 hb; replace HO459 := Kd.tR HO459 hb; replace HO462 := Aside0.mk (Kd.R_elder' (rSR HO462.out) (Kd.R_base ho0) hb); replace HB := uQ HB hb; (try clear hb); (try clear hb2); (try clear hk); (try clear hi); (try clear ho0)))
  (try simp only [Act.put, uY, uZ, vA])
  go_cut [34] (fun v34 wc => ∃ (kq : Nat) (x34_6 : Bool), v34 = .bool x34_6 ∧ Aside0 (laws_FnDigests.j0 kq l0 t454 t455 t460 t463 x34_6 = some true) ∧ Aside0 (kq ≤ k) ∧ Aside0 (Kd.R k66 66 wc w.heap.size (fun k_ => some k_ ≠ ((.slice Ao11 t455.length co11) : Value).ownBlock) (.slice Ao9 t454.length co9) t454) ∧ Aside0 (Kd.R k66 66 wc w.heap.size (fun k_ => some k_ ≠ ((.slice Ao9 t454.length co9) : Value).ownBlock) (.slice Ao11 t455.length co11) t455) ∧ Aside0 (Kd.R (Kd.int .i64) 3 wc w.heap.size (fun k_ => some k_ ≠ (v464 : Value).ownBlock) v461 t460) ∧ Aside0 (Kd.R (Kd.int .i64) 3 wc w.heap.size (fun k_ => some k_ ≠ (v461 : Value).ownBlock) v464 t463) ∧ Aside0 (Below w.heap.size w wc))
  case first =>
    have H := HC7.out
    clear HC7
    replace H := Option.bind_eq_some_iff.mp H
    obtain ⟨t466, A130, H⟩ := H
    try dsimp only at H
    have A13 := Aside0.mk A130
    clear A130
    replace H := Option.bind_eq_some_iff.mp H
    obtain ⟨t469, A140, H⟩ := H
    try dsimp only at H
    have A14 := Aside0.mk A140
    clear A140
    go_wp2_with (first | ((with_reducible refine uE (f := 11) rfl ?_); refine uL (some 25) Tryd.func11 #[.slice Ao9 t454.length co9] ?_; (with_reducible refine (spec_DigestList.calls k _ _ t454 t466 _ ?side1 ?side2 A13.out).mono ?_); (case side1 => repeat (first | exact (Kd.uM HO457.out).2.2 | (with_reducible refine Kd.C_alloc ?_ _) | (with_reducible refine Kd.C_drewN ?_ _) | (with_reducible refine Kd.C_drew ?_))); (case side2 => exact (Kd.uM HO457.out).2.1); rintro e w24 ⟨v467, rfl, ho0, hb⟩; refine ⟨_, rfl, ?_⟩; have HO468 := Aside0.mk (Kd.uX (Kd.R_new' (Kd.R_new' ho0 (Kd.R_lt (rSR HO462.out))) (Kd.R_lt (rSR HO465.out))) (uU q0)); replace HO457 := Kd.tR HO457 hb; replace HO459 := Kd.tR HO459 hb; replace HO462 := Aside0.mk (Kd.R_elder' (rSR HO462.out) (Kd.R_base ho0) hb); replace HO465 := Aside0.mk (Kd.R_elder' (rSR HO465.out) (Kd.R_base ho0) hb); replace HB := uQ HB hb; (try clear hb); (try clear hb2); (try clear hk); (try clear hi); (try clear ho0); obtain ⟨Ao25, co25, eo25⟩ := Kd.R_slice HO462.out; subst eo25; obtain ⟨Ao26, co26, eo26⟩ := Kd.R_slice HO468.out; subst eo26; refine ?roundEnd))
    case roundEnd =>
    by_cases c15 : t469 = true
    rotate_left
    · replace c15 := Bool.eq_false_iff.mpr c15
      subst c15
      try rw [if_neg (show ¬ (false = true) by decide)] at H
      have H' := Aside0.mk H
      clear H
      go_wp2_with (first | ((with_reducible refine uE (f := 10) rfl ?_); refine uL (some 26) Tryd.func10 #[.slice Ao25 t460.length co25, .slice Ao26 t466.length co26] ?_; (with_reducible refine (laws_sameInts.calls k _ _ t460 _ _ t466 false _ ?side1 ?side2 ?side3 ?side4 A14.out).mono ?_); (case side1 => repeat (first | exact (Kd.uM HO462.out).2.2 | (with_reducible refine Kd.C_alloc ?_ _) | (with_reducible refine Kd.C_drewN ?_ _) | (with_reducible refine Kd.C_drew ?_))); (case side2 => exact (Kd.uM HO462.out).2.1); (case side3 => repeat (first | exact (Kd.uM HO468.out).2.2 | (with_reducible refine Kd.C_alloc ?_ _) | (with_reducible refine Kd.C_drewN ?_ _) | (with_reducible refine Kd.C_drew ?_))); (case side4 => exact (Kd.uM HO468.out).2.1); rintro e w' ⟨rfl, ⟨nd, rfl⟩⟩; refine ⟨_, rfl, ?_⟩))
      go_meet
      case rel => exact ⟨_, (true), q10, H', ⟨by first | omega | exact Nat.le_refl _⟩, ⟨by (with_reducible repeat (first | apply Kd.uT | apply Kd.uS | apply Kd.uW)); exact HO457.out⟩, ⟨by (with_reducible repeat (first | apply Kd.uT | apply Kd.uS | apply Kd.uW)); exact HO459.out⟩, ⟨by (with_reducible repeat (first | apply Kd.uT | apply Kd.uS | apply Kd.uW)); exact Kd.uV HO462.out (fun _ hk => hk.1.2)⟩, ⟨by (with_reducible repeat (first | apply Kd.uT | apply Kd.uS | apply Kd.uW)); exact Kd.uV HO465.out (fun _ hk => hk.1.2)⟩, ⟨q0⟩⟩
    subst c15
    try rw [if_pos rfl] at H
    replace H := Option.bind_eq_some_iff.mp H
    obtain ⟨t470, A160, H⟩ := H
    try dsimp only at H
    have A16 := Aside0.mk A160
    clear A160
    replace H := Option.bind_eq_some_iff.mp H
    obtain ⟨t473, A170, H⟩ := H
    try dsimp only at H
    have A17 := Aside0.mk A170
    clear A170
    have H' := Aside0.mk H
    clear H
    go_wp2_with (first | ((with_reducible refine uE (f := 10) rfl ?_); refine uL (some 26) Tryd.func10 #[.slice Ao25 t460.length co25, .slice Ao26 t466.length co26] ?_; (with_reducible refine (laws_sameInts.calls k _ _ t460 _ _ t466 true _ ?side1 ?side2 ?side3 ?side4 A14.out).mono ?_); (case side1 => repeat (first | exact (Kd.uM HO462.out).2.2 | (with_reducible refine Kd.C_alloc ?_ _) | (with_reducible refine Kd.C_drewN ?_ _) | (with_reducible refine Kd.C_drew ?_))); (case side2 => exact (Kd.uM HO462.out).2.1); (case side3 => repeat (first | exact (Kd.uM HO468.out).2.2 | (with_reducible refine Kd.C_alloc ?_ _) | (with_reducible refine Kd.C_drewN ?_ _) | (with_reducible refine Kd.C_drew ?_))); (case side4 => exact (Kd.uM HO468.out).2.1); rintro e w' ⟨rfl, ⟨nd, rfl⟩⟩; refine ⟨_, rfl, ?_⟩) | (go_at_call 11; (with_reducible refine (spec_DigestList.calls k _ _ t455 t470 _ ?side1 ?side2 A16.out).mono ?_); (case side1 => repeat (first | exact (Kd.uM HO459.out).2.2 | (with_reducible refine Kd.C_alloc ?_ _) | (with_reducible refine Kd.C_drewN ?_ _) | (with_reducible refine Kd.C_drew ?_))); (case side2 => exact (Kd.uM HO459.out).2.1); rintro e w21 ⟨v471, rfl, ho0, hb⟩; have HO472 := Aside0.mk (Kd.uX (Kd.R_new' (Kd.R_new' (Kd.R_new' ho0 (Kd.R_lt (rSR HO462.out))) (Kd.R_lt (rSR HO465.out))) (Kd.R_lt (rSR HO468.out))) (uU q0)); replace HO457 := Kd.tR HO457 hb; replace HO459 := Kd.tR HO459 hb; replace HO462 := Aside0.mk (Kd.R_elder' (rSR HO462.out) (Kd.R_base ho0) hb); replace HO465 := Aside0.mk (Kd.R_elder' (rSR HO465.out) (Kd.R_base ho0) hb); replace HO468 := Aside0.mk (Kd.R_elder' (rSR HO468.out) (Kd.R_base ho0) hb); replace HB := uQ HB hb; (try clear hb); (try clear hb2); (try clear hk); (try clear hi); (try clear ho0); obtain ⟨Ao22, co22, eo22⟩ := Kd.R_slice HO465.out; subst eo22; obtain ⟨Ao23, co23, eo23⟩ := Kd.R_slice HO472.out; subst eo23) | (go_at_call 10; (with_reducible refine (laws_sameInts.calls k _ _ t463 _ _ t470 t473 _ ?side1 ?side2 ?side3 ?side4 A17.out).mono ?_); (case side1 => repeat (first | exact (Kd.uM HO465.out).2.2 | (with_reducible refine Kd.C_alloc ?_ _) | (with_reducible refine Kd.C_drewN ?_ _) | (with_reducible refine Kd.C_drew ?_))); (case side2 => exact (Kd.uM HO465.out).2.1); (case side3 => repeat (first | exact (Kd.uM HO472.out).2.2 | (with_reducible refine Kd.C_alloc ?_ _) | (with_reducible refine Kd.C_drewN ?_ _) | (with_reducible refine Kd.C_drew ?_))); (case side4 => exact (Kd.uM HO472.out).2.1); rintro e w' ⟨rfl, ⟨nd, rfl⟩⟩))
    go_meet
    case rel => exact ⟨_, (!t473), q10, H', ⟨by first | omega | exact Nat.le_refl _⟩, ⟨by (with_reducible repeat (first | apply Kd.uT | apply Kd.uS | apply Kd.uW)); exact HO457.out⟩, ⟨by (with_reducible repeat (first | apply Kd.uT | apply Kd.uS | apply Kd.uW)); exact HO459.out⟩, ⟨by (with_reducible repeat (first | apply Kd.uT | apply Kd.uS | apply Kd.uW)); exact Kd.uV HO462.out (fun _ hk => hk.1.1.2)⟩, ⟨by (with_reducible repeat (first | apply Kd.uT | apply Kd.uS | apply Kd.uW)); exact Kd.uV HO465.out (fun _ hk => hk.1.1.2)⟩, ⟨q0⟩⟩
  case rest =>
    clear HC7
    try clear c1
    try clear p2
    try clear c3
    try clear c7
    try clear c8
    try clear c9
    try clear c10
    try clear c11
    try clear c15
    obtain ⟨kq, x34_6, rfl, HA, HJ6, HO_3, HO_4, HO_5, HO_6, HB⟩ := hcut
    cases kq with
    | zero => exact absurd HA.out (by simp [laws_FnDigests.j0])
    | succ kj6 =>
      have H := HA.out
      clear HA
      simp only [laws_FnDigests.j0] at H
      by_cases c27 : x34_6 = true
      · subst c27
        try rw [if_pos rfl] at H
        exact absurd H (by simp)
      replace c27 := Bool.eq_false_iff.mpr c27
      subst c27
      try rw [if_neg (show ¬ (false = true) by decide)] at H
      replace H := Option.bind_eq_some_iff.mp H
      obtain ⟨t474, A280, H⟩ := H
      try dsimp only at H
      have A28 := Aside0.mk A280
      clear A280
      replace H := Option.bind_eq_some_iff.mp H
      obtain ⟨t475, A290, H⟩ := H
      try dsimp only at H
      have A29 := Aside0.mk A290
      clear A290
      have HC30 := Aside0.mk H
      clear H
      go_upto_region 10 with (first | ((with_reducible refine uE (f := 12) rfl ?_); refine uL (some 37) Tryd.func12 #[.slice Ao9 t454.length co9, .slice Ao11 t455.length co11] ?_; (with_reducible refine (spec_CommonPrefix.calls kj6 _ _ t454 _ _ t455 t474 _ ?side1 ?side2 ?side3 ?side4 A28.out).mono ?_); (case side1 => exact q37); (case side2 => exact (Kd.uM HO_3.out).2.1); (case side3 => exact q53); (case side4 => exact (Kd.uM HO_4.out).2.1); rintro e w' ⟨rfl, ⟨nd, rfl⟩⟩; refine ⟨_, rfl, ?_⟩; obtain ⟨Ao31, co31, eo31⟩ := Kd.R_slice HO_5.out; subst eo31; obtain ⟨Ao32, co32, eo32⟩ := Kd.R_slice HO_6.out; subst eo32) | ((with_reducible refine uE (f := 13) rfl ?_); refine uL (some 40) Tryd.func13 #[.slice Ao31 t460.length co31, .slice Ao32 t463.length co32] ?_; (with_reducible refine (impl_FirstDifference.calls kj6 _ _ t460 _ _ t463 t475 _ ?side1 ?side2 ?side3 ?side4 A29.out).mono ?_); (case side1 => repeat (first | exact (Kd.uM HO_5.out).2.2 | (with_reducible refine Kd.C_alloc ?_ _) | (with_reducible refine Kd.C_drewN ?_ _) | (with_reducible refine Kd.C_drew ?_))); (case side2 => exact (Kd.uM HO_5.out).2.1); (case side3 => repeat (first | exact (Kd.uM HO_6.out).2.2 | (with_reducible refine Kd.C_alloc ?_ _) | (with_reducible refine Kd.C_drewN ?_ _) | (with_reducible refine Kd.C_drew ?_))); (case side4 => exact (Kd.uM HO_6.out).2.1); rintro e w33 ⟨rfl, hb⟩; refine ⟨_, rfl, ?_⟩; replace HO_3 := Kd.tR HO_3 hb; replace HO_4 := Kd.tR HO_4 hb; replace HO_5 := Kd.tR HO_5 hb; replace HO_6 := Kd.tR HO_6 hb; replace HB := uQ HB hb; (try clear hb); (try clear hb2); (try clear hk); (try clear hi)))
      (try simp only [Act.put, uY, uZ, vA])
      go_cut [62] (fun v62 wc => ∃ (kq : Nat) (x62_29 : Bool), v62 = .bool x62_29 ∧ Aside0 (laws_FnDigests.j1 kq l0 x62_29 = some true) ∧ Aside0 (kq ≤ kj6) ∧ Aside0 (Below w.heap.size w wc))
      case first =>
        have H := HC30.out
        clear HC30
        replace H := Option.bind_eq_some_iff.mp H
        obtain ⟨t476, A340, H⟩ := H
        try dsimp only at H
        have A34 := Aside0.mk A340
        clear A340
        go_wp2_with (first | ((with_reducible refine uE (f := 14) rfl ?_); refine uL (some 44) Tryd.func14 #[.slice Ao31 t460.length co31, .slice Ao32 t463.length co32] ?_; (with_reducible refine (spec_FirstDifference.calls kj6 _ _ t460 _ _ t463 t476 _ ?side1 ?side2 ?side3 ?side4 A34.out).mono ?_); (case side1 => repeat (first | exact (Kd.uM HO_5.out).2.2 | (with_reducible refine Kd.C_alloc ?_ _) | (with_reducible refine Kd.C_drewN ?_ _) | (with_reducible refine Kd.C_drew ?_))); (case side2 => exact (Kd.uM HO_5.out).2.1); (case side3 => repeat (first | exact (Kd.uM HO_6.out).2.2 | (with_reducible refine Kd.C_alloc ?_ _) | (with_reducible refine Kd.C_drewN ?_ _) | (with_reducible refine Kd.C_drew ?_))); (case side4 => exact (Kd.uM HO_6.out).2.1); rintro e w52 ⟨rfl, hb⟩; refine ⟨_, rfl, ?_⟩; replace HO_3 := Kd.tR HO_3 hb; replace HO_4 := Kd.tR HO_4 hb; replace HO_5 := Kd.tR HO_5 hb; replace HO_6 := Kd.tR HO_6 hb; replace HB := uQ HB hb; (try clear hb); (try clear hb2); (try clear hk); (try clear hi); refine ?roundEnd))
        case roundEnd =>
        by_cases c35 : t475 = t476
        rotate_left
        · rw [if_neg c35] at H
          have c35b0 : (t475 == t476) = false := beq_eq_false_iff_ne.mpr c35
          have c35b1 : (t475 != t476) = true := bne_iff_ne.mpr c35
          (first | rw [c35b0] | (simp only [uB, uD]; rw [c35b0]) | skip)
          have H' := Aside0.mk H
          clear H
          go_wp2
          go_meet
          case rel => exact ⟨_, (true), q10, H', ⟨by have := HJ6.out; first | omega | exact Nat.le_refl _⟩, ⟨q0⟩⟩
        rw [if_pos c35] at H
        have c35b0 : (t475 == t476) = true := beq_iff_eq.mpr c35
        have c35b1 : (t475 != t476) = false := bne_eq_false_iff_eq.mpr c35
        clear c35
        (first | rw [c35b0] | (simp only [uB, uD]; rw [c35b0]) | skip)
        replace H := Option.bind_eq_some_iff.mp H
        obtain ⟨t477, A360, H⟩ := H
        try dsimp only at H
        have A36 := Aside0.mk A360
        clear A360
        by_cases c37 : t477 = true
        rotate_left
        · replace c37 := Bool.eq_false_iff.mpr c37
          subst c37
          try rw [if_neg (show ¬ (false = true) by decide)] at H
          have H' := Aside0.mk H
          clear H
          go_wp2_with (first | (go_at_call 15; (with_reducible refine (spec_IsLog.calls kj6 _ _ t454 false _ ?side1 ?side2 A36.out).mono ?_); (case side1 => exact q37); (case side2 => exact (Kd.uM HO_3.out).2.1); rintro e w51 ⟨rfl, hb⟩; replace HO_3 := Kd.tR HO_3 hb; replace HO_4 := Kd.tR HO_4 hb; replace HO_5 := Kd.tR HO_5 hb; replace HO_6 := Kd.tR HO_6 hb; replace HB := uQ HB hb; (try clear hb); (try clear hb2); (try clear hk); (try clear hi)))
          go_meet
          case rel => exact ⟨_, (false), q10, H', ⟨by have := HJ6.out; first | omega | exact Nat.le_refl _⟩, ⟨q0⟩⟩
        subst c37
        try rw [if_pos rfl] at H
        replace H := Option.bind_eq_some_iff.mp H
        obtain ⟨t478, A380, H⟩ := H
        try dsimp only at H
        have A38 := Aside0.mk A380
        clear A380
        go_wp2_with (first | (go_at_call 15; (with_reducible refine (spec_IsLog.calls kj6 _ _ t454 true _ ?side1 ?side2 A36.out).mono ?_); (case side1 => exact q37); (case side2 => exact (Kd.uM HO_3.out).2.1); rintro e w48 ⟨rfl, hb⟩; replace HO_3 := Kd.tR HO_3 hb; replace HO_4 := Kd.tR HO_4 hb; replace HO_5 := Kd.tR HO_5 hb; replace HO_6 := Kd.tR HO_6 hb; replace HB := uQ HB hb; (try clear hb); (try clear hb2); (try clear hk); (try clear hi); refine ?roundEnd))
        case roundEnd =>
        by_cases c39 : t478 = true
        rotate_left
        · replace c39 := Bool.eq_false_iff.mpr c39
          subst c39
          try rw [if_neg (show ¬ (false = true) by decide)] at H
          have H' := Aside0.mk H
          clear H
          go_wp2_with (first | (go_at_call 15; (with_reducible refine (spec_IsLog.calls kj6 _ _ t455 false _ ?side1 ?side2 A38.out).mono ?_); (case side1 => exact q53); (case side2 => exact (Kd.uM HO_4.out).2.1); rintro e w49 ⟨rfl, hb⟩; replace HO_3 := Kd.tR HO_3 hb; replace HO_4 := Kd.tR HO_4 hb; replace HO_5 := Kd.tR HO_5 hb; replace HO_6 := Kd.tR HO_6 hb; replace HB := uQ HB hb; (try clear hb); (try clear hb2); (try clear hk); (try clear hi)))
          go_meet
          case rel => exact ⟨_, (false), q10, H', ⟨by have := HJ6.out; first | omega | exact Nat.le_refl _⟩, ⟨q0⟩⟩
        subst c39
        try rw [if_pos rfl] at H
        go_wp2_with (first | (go_at_call 15; (with_reducible refine (spec_IsLog.calls kj6 _ _ t455 true _ ?side1 ?side2 A38.out).mono ?_); (case side1 => exact q53); (case side2 => exact (Kd.uM HO_4.out).2.1); rintro e w46 ⟨rfl, hb⟩; replace HO_3 := Kd.tR HO_3 hb; replace HO_4 := Kd.tR HO_4 hb; replace HO_5 := Kd.tR HO_5 hb; replace HO_6 := Kd.tR HO_6 hb; replace HB := uQ HB hb; (try clear hb); (try clear hb2); (try clear hk); (try clear hi); refine ?roundEnd))
        case roundEnd =>
        by_cases c40 : t475 ≥ 0
        rotate_left
        · rw [if_neg c40] at H
          have c40b0 : decide (0 ≤ t475) = false := decide_eq_false c40
          clear c40
          have H' := Aside0.mk H
          clear H
          go_wp2
          go_meet
          case rel => exact ⟨_, (false), q10, H', ⟨by have := HJ6.out; first | omega | exact Nat.le_refl _⟩, ⟨q0⟩⟩
        rw [if_pos c40] at H
        have c40b0 : decide (0 ≤ t475) = true := decide_eq_true c40
        clear c40
        have H' := Aside0.mk H
        clear H
        go_wp2
        go_meet
        case rel => exact ⟨_, (decide (t475 ≤ t474)), q10, H', ⟨by have := HJ6.out; first | omega | exact Nat.le_refl _⟩, ⟨q0⟩⟩
      case rest =>
        clear HC30
        try clear c1
        try clear c2
        try clear p2
        try clear c3
        try clear c4
        try clear c7
        try clear c8
        try clear c9
        try clear c10
        try clear c11
        try clear c12
        try clear c13
        try clear c14
        try clear c15
        try clear c27
        try clear c35
        try clear c35b0
        try clear c35b1
        try clear c37
        try clear c39
        try clear c40
        try clear c40b0
        try clear p2
        obtain ⟨kq, x62_29, rfl, HA, HJ29, HB⟩ := hcut
        cases kq with
        | zero => exact absurd HA.out (by simp [laws_FnDigests.j1])
        | succ kj29 =>
          have H := HA.out
          clear HA
          simp only [laws_FnDigests.j1] at H
          by_cases c53 : x62_29 = true
          · subst c53
            try rw [if_pos rfl] at H
            exact absurd H (by simp)
          replace c53 := Bool.eq_false_iff.mpr c53
          subst c53
          try rw [if_neg (show ¬ (false = true) by decide)] at H
          replace H := Option.bind_eq_some_iff.mp H
          obtain ⟨⟨t479, t480, t481⟩, A540, H⟩ := H
          try dsimp only at H
          have A54 := Aside0.mk A540
          clear A540
          replace H := Option.bind_eq_some_iff.mp H
          obtain ⟨t484, A550, H⟩ := H
          try dsimp only at H
          have A55 := Aside0.mk A550
          clear A550
          replace H := Option.bind_eq_some_iff.mp H
          obtain ⟨t485, A560, H⟩ := H
          try dsimp only at H
          have A56 := Aside0.mk A560
          clear A560
          go_wp2_with (first | ((with_reducible refine uE (f := 16) rfl ?_); refine uL (some 65) Tryd.func16 #[.slice A0 l0.length c0] ?_; (with_reducible refine (spec_DrawProvesPrefix.calls kj29 _ _ l0 t479 t480 t481 _ ?side1 ?side2 A54.out).mono ?_); (case side1 => exact q36); (case side2 => exact HC0.out); rintro e w82 ⟨v482, rfl, ho0, hb⟩; refine ⟨_, rfl, ?_⟩; have HO483 := Aside0.mk (Kd.uX ho0 (uU q0)); replace HB := uQ HB hb; (try clear hb); (try clear hb2); (try clear hk); (try clear hi); (try clear ho0); obtain ⟨Ao83, co83, eo83⟩ := Kd.R_slice HO483.out; subst eo83) | ((with_reducible refine uE (f := 17) rfl ?_); refine uL (some 72) Tryd.func17 #[.slice Ao83 t479.length co83, .int .i64 t480, .int .i64 t481] ?_; (with_reducible refine (impl_ProvesPrefix.calls kj29 _ _ t479 t480 t481 t484 _ ?side1 ?side2 ?side3 A55.out).mono ?_); (case side1 => exact q31); (case side2 => exact (Kd.uM HO483.out).2.1); (case side3 => exact q28); rintro e w84 ⟨rfl, hb⟩; refine ⟨_, rfl, ?_⟩; replace HO483 := Kd.tR HO483 hb; replace HB := uQ HB hb; (try clear hb); (try clear hb2); (try clear hk); (try clear hi)) | ((with_reducible refine uE (f := 18) rfl ?_); refine uL (some 76) Tryd.func18 #[.slice Ao83 t479.length co83, .int .i64 t480, .int .i64 t481] ?_; (with_reducible refine (spec_ProvesPrefix.calls kj29 _ _ t479 t480 t481 t485 _ ?side1 ?side2 A56.out).mono ?_); (case side1 => exact q31); (case side2 => exact (Kd.uM HO483.out).2.1); rintro e w85 ⟨rfl, hb⟩; refine ⟨_, rfl, ?_⟩; replace HO483 := Kd.tR HO483 hb; replace HB := uQ HB hb; (try clear hb); (try clear hb2); (try clear hk); (try clear hi); refine ?roundEnd))
          case roundEnd =>
          by_cases c57 : (t484 == t485) = true
          rotate_left
          · rw [if_neg c57] at H
            have c57b0 : (t484 == t485) = false := by simpa using c57
            (try (have c57b1 : decide (t484 = t485) = false := by simpa using c57))
            (try (have c57b2 : (t484 == t485) = false := by simpa using c57))
            (try (have c57b3 : ¬ (t484 = t485) := by simpa using c57))
            clear c57
            exact absurd H (by simp)
          rw [if_pos c57] at H
          have c57b0 : (t484 == t485) = true := c57
          (try (have c57b1 : decide (t484 = t485) = true := by simpa using c57))
          (try (have c57b2 : (t484 == t485) = true := by simpa using c57))
          clear c57
          replace H := Option.bind_eq_some_iff.mp H
          obtain ⟨t486, A580, H⟩ := H
          try dsimp only at H
          have A58 := Aside0.mk A580
          clear A580
          replace H := Option.bind_eq_some_iff.mp H
          obtain ⟨t487, A590, H⟩ := H
          try dsimp only at H
          have A59 := Aside0.mk A590
          clear A590
          go_wp2_with (first | (go_at_call 19; (with_reducible refine (impl_DigestOf.calls kj29 _ _ t479 t480 t486 _ ?side1 ?side2 ?side3 A58.out).mono ?_); (case side1 => exact q31); (case side2 => exact (Kd.uM HO483.out).2.1); (case side3 => exact q28); rintro e w86 ⟨rfl, hb⟩; replace HO483 := Kd.tR HO483 hb; replace HB := uQ HB hb; (try clear hb); (try clear hb2); (try clear hk); (try clear hi)) | (go_at_call 20; (with_reducible refine (spec_DigestOf.calls kj29 _ _ t479 t480 t487 _ ?side1 ?side2 A59.out).mono ?_); (case side1 => exact q31); (case side2 => exact (Kd.uM HO483.out).2.1); rintro e w87 ⟨rfl, hb⟩; replace HO483 := Kd.tR HO483 hb; replace HB := uQ HB hb; (try clear hb); (try clear hb2); (try clear hk); (try clear hi); refine ?roundEnd))
          case roundEnd =>
          by_cases c60 : t486 = t487
          rotate_left
          · rw [if_neg c60] at H
            have c60b0 : (t486 == t487) = false := beq_eq_false_iff_ne.mpr c60
            have c60b1 : (t486 != t487) = true := bne_iff_ne.mpr c60
            exact absurd H (by simp)
          rw [if_pos c60] at H
          have c60b0 : (t486 == t487) = true := beq_iff_eq.mpr c60
          have c60b1 : (t486 != t487) = false := bne_eq_false_iff_eq.mpr c60
          clear c60
          replace H := Option.bind_eq_some_iff.mp H
          obtain ⟨t488, A610, H⟩ := H
          try dsimp only at H
          have A61 := Aside0.mk A610
          clear A610
          by_cases c62 : t488 = true
          rotate_left
          · replace c62 := Bool.eq_false_iff.mpr c62
            subst c62
            try rw [if_neg (show ¬ (false = true) by decide)] at H
            go_wp2_with (first | (go_at_call 15; (with_reducible refine (spec_IsLog.calls kj29 _ _ t479 false _ ?side1 ?side2 A61.out).mono ?_); (case side1 => exact q31); (case side2 => exact (Kd.uM HO483.out).2.1); rintro e w88 ⟨rfl, hb⟩; replace HO483 := Kd.tR HO483 hb; replace HB := uQ HB hb; (try clear hb); (try clear hb2); (try clear hk); (try clear hi)))
            go_ret
            exact ⟨q2, q0⟩
          subst c62
          try rw [if_pos rfl] at H
          go_wp2_with (first | (go_at_call 15; (with_reducible refine (spec_IsLog.calls kj29 _ _ t479 true _ ?side1 ?side2 A61.out).mono ?_); (case side1 => exact q31); (case side2 => exact (Kd.uM HO483.out).2.1); rintro e w70 ⟨rfl, hb⟩; replace HO483 := Kd.tR HO483 hb; replace HB := uQ HB hb; (try clear hb); (try clear hb2); (try clear hk); (try clear hi); refine ?roundEnd))
          case roundEnd =>
          by_cases c63 : t480 > (t479.length : Int)
          · rw [if_pos c63] at H
            have c63b0 : decide ((t479.length : Int) < t480) = true := decide_eq_true c63
            clear c63
            go_wp2
            go_ret
            exact ⟨q2, q0⟩
          rw [if_neg c63] at H
          have c63b0 : decide ((t479.length : Int) < t480) = false := decide_eq_false c63
          clear c63
          replace H := Option.bind_eq_some_iff.mp H
          obtain ⟨t489, A710, H⟩ := H
          try dsimp only at H
          have A71 := Aside0.mk A710
          clear A710
          replace H := Option.bind_eq_some_iff.mp H
          obtain ⟨t490, A720, H⟩ := H
          try dsimp only at H
          have A72 := Aside0.mk A720
          clear A720
          have hX_ := Option.some.inj H
          go_wp2_with (first | (go_at_call 19; (with_reducible refine (impl_DigestOf.calls kj29 _ _ t479 t480 t489 _ ?side1 ?side2 ?side3 A71.out).mono ?_); (case side1 => exact q31); (case side2 => exact (Kd.uM HO483.out).2.1); (case side3 => exact q28); rintro e w80 ⟨rfl, hb⟩; replace HO483 := Kd.tR HO483 hb; replace HB := uQ HB hb; (try clear hb); (try clear hb2); (try clear hk); (try clear hi)) | (go_at_call 17; (with_reducible refine (impl_ProvesPrefix.calls kj29 _ _ t479 t480 t489 t490 _ ?side1 ?side2 ?side3 A72.out).mono ?_); (case side1 => exact q31); (case side2 => exact (Kd.uM HO483.out).2.1); (case side3 => exact q28); rintro e w81 ⟨rfl, hb⟩; replace HO483 := Kd.tR HO483 hb; replace HB := uQ HB hb; (try clear hb); (try clear hb2); (try clear hk); (try clear hi)))
          go_ret
          exact ⟨q2, q0⟩

end Go.Proofs.YtcikahnmiiichaaDoor.G
