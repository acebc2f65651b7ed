/- Go functions as Lean functions, and the proof that the code comes to them: written by a program of this session out of the translation. -/
import Derived.Test.YtcikahnmiiichaaDoorG0
import Derived.Test.YtcikahnmiiichaaDoorG7
import Derived.Test.YtcikahnmiiichaaDoorG8
namespace Go.Proofs.YtcikahnmiiichaaDoor.G
open List renaming setIfInBounds_toArray → uY, set_cons_zero → uZ, set_cons_succ → vA
open Go.World renaming block_lt_of_cell? → vE
open Go.Proofs.YtcikahnmiiichaaDoor.Given
open Go.RowKit Go.Proofs.YtcikahnmiiichaaDoorW.PrintWords Go.Proofs.YtcikahnmiiichaaDoorW.PrintLast Go.Proofs.YtcikahnmiiichaaDoorW.PrintMore
attribute [local go_sem] max2_int min2_int max_two min_two max_three min_three max_four min_four   -- for this text's walks alone
set_option linter.unusedVariables false
set_option linter.unusedSimpArgs false

/-! ### spec_FormatOp: function 91 -/
def spec_FormatOp.f (k : Nat) (a0_0 : Int) (a0_1 : Int) (a0_2 : Int) (a0_3 : Int) (a0_4 : Int) (a0_5 : Int) : Option (ByteArray) := (spec_IsValidOp.f a0_0 a0_1 a0_2 a0_3 a0_4 a0_5).bind fun t380 => (if t380 = true then ((spec_FormatInt.f k a0_0).bind fun t381 => (if t381.size + 1 ≤ 9223372036854775807 then ((spec_FormatInt.f k a0_1).bind fun t382 => (if (t381 ++ (⟨#[46]⟩ : ByteArray)).size + t382.size ≤ 9223372036854775807 then (if ((t381 ++ (⟨#[46]⟩ : ByteArray)) ++ t382).size + 1 ≤ 9223372036854775807 then (if a0_2 = 1 then (if (((t381 ++ (⟨#[46]⟩ : ByteArray)) ++ t382) ++ (⟨#[32]⟩ : ByteArray)).size + 6 ≤ 9223372036854775807 then ((spec_FormatInt.f k a0_3).bind fun t383 => (if ((((t381 ++ (⟨#[46]⟩ : ByteArray)) ++ t382) ++ (⟨#[32]⟩ : ByteArray)) ++ (⟨#[119, 114, 105, 116, 101, 32]⟩ : ByteArray)).size + t383.size ≤ 9223372036854775807 then (if (((((t381 ++ (⟨#[46]⟩ : ByteArray)) ++ t382) ++ (⟨#[32]⟩ : ByteArray)) ++ (⟨#[119, 114, 105, 116, 101, 32]⟩ : ByteArray)) ++ t383).size + 1 ≤ 9223372036854775807 then ((spec_FormatInt.f k a0_5).bind fun t384 => (if ((((((t381 ++ (⟨#[46]⟩ : ByteArray)) ++ t382) ++ (⟨#[32]⟩ : ByteArray)) ++ (⟨#[119, 114, 105, 116, 101, 32]⟩ : ByteArray)) ++ t383) ++ (⟨#[32]⟩ : ByteArray)).size + t384.size ≤ 9223372036854775807 then (some (((((((t381 ++ (⟨#[46]⟩ : ByteArray)) ++ t382) ++ (⟨#[32]⟩ : ByteArray)) ++ (⟨#[119, 114, 105, 116, 101, 32]⟩ : ByteArray)) ++ t383) ++ (⟨#[32]⟩ : ByteArray)) ++ t384)) else (none))) else (none)) else (none))) else (none)) else (if (((t381 ++ (⟨#[46]⟩ : ByteArray)) ++ t382) ++ (⟨#[32]⟩ : ByteArray)).size + 5 ≤ 9223372036854775807 then ((spec_FormatInt.f k a0_3).bind fun t385 => (if ((((t381 ++ (⟨#[46]⟩ : ByteArray)) ++ t382) ++ (⟨#[32]⟩ : ByteArray)) ++ (⟨#[115, 119, 97, 112, 32]⟩ : ByteArray)).size + t385.size ≤ 9223372036854775807 then (if (((((t381 ++ (⟨#[46]⟩ : ByteArray)) ++ t382) ++ (⟨#[32]⟩ : ByteArray)) ++ (⟨#[115, 119, 97, 112, 32]⟩ : ByteArray)) ++ t385).size + 1 ≤ 9223372036854775807 then ((spec_FormatInt.f k a0_4).bind fun t386 => (if ((((((t381 ++ (⟨#[46]⟩ : ByteArray)) ++ t382) ++ (⟨#[32]⟩ : ByteArray)) ++ (⟨#[115, 119, 97, 112, 32]⟩ : ByteArray)) ++ t385) ++ (⟨#[32]⟩ : ByteArray)).size + t386.size ≤ 9223372036854775807 then (if (((((((t381 ++ (⟨#[46]⟩ : ByteArray)) ++ t382) ++ (⟨#[32]⟩ : ByteArray)) ++ (⟨#[115, 119, 97, 112, 32]⟩ : ByteArray)) ++ t385) ++ (⟨#[32]⟩ : ByteArray)) ++ t386).size + 1 ≤ 9223372036854775807 then ((spec_FormatInt.f k a0_5).bind fun t387 => (if ((((((((t381 ++ (⟨#[46]⟩ : ByteArray)) ++ t382) ++ (⟨#[32]⟩ : ByteArray)) ++ (⟨#[115, 119, 97, 112, 32]⟩ : ByteArray)) ++ t385) ++ (⟨#[32]⟩ : ByteArray)) ++ t386) ++ (⟨#[32]⟩ : ByteArray)).size + t387.size ≤ 9223372036854775807 then (some (((((((((t381 ++ (⟨#[46]⟩ : ByteArray)) ++ t382) ++ (⟨#[32]⟩ : ByteArray)) ++ (⟨#[115, 119, 97, 112, 32]⟩ : ByteArray)) ++ t385) ++ (⟨#[32]⟩ : ByteArray)) ++ t386) ++ (⟨#[32]⟩ : ByteArray)) ++ t387)) else (none))) else (none)) else (none))) else (none)) else (none))) else (none))) else (none)) else (none))) else (none))) else (some (⟨#[]⟩ : ByteArray)))
theorem spec_FormatOp.mono : ∀ a0 a1 a2 a3 a4 a5 k, uF (spec_FormatOp.f k a0 a1 a2 a3 a4 a5) (spec_FormatOp.f (k + 1) a0 a1 a2 a3 a4 a5) := by
  intro a0 a1 a2 a3 a4 a5 k
  unfold spec_FormatOp.f
  repeat' first
      | (with_reducible exact spec_FormatInt.mono _ _)
      | (with_reducible exact uF.refl _)
      | (with_reducible exact uF.none _)
      | (with_reducible refine uF.ite ?_ ?_)
      | (with_reducible refine uF.bind ?_ (fun _ => ?_))
      | exact spec_FormatInt.mono _ _
      | exact uF.none _
      | refine uF.ite ?_ ?_
      | refine uF.bind ?_ (fun _ => ?_)
def spec_FormatOp.T3 : Bool × List (List Nat × List Nat) := (true, [([], []), ([0], [0]), ([1], [1]), ([2], [2]), ([], []), ([4], [4]), ([5, 2], [5]), ([3, 6], [3, 6]), ([7], [7]), ([8, 6, 0, 1, 2, 3, 4, 5, 6, 7, 8], [8])])
def spec_FormatOp.B3 : List Nat := [0, 1, 3, 7, 0, 16, 55, 127, 255, 511]
theorem spec_FormatOp.tab3 : rtab .any (opsOf Tryd.f91 3) = spec_FormatOp.T3 := by kernel_rfl
theorem spec_FormatOp.bits3 : waitsOk spec_FormatOp.T3.2 spec_FormatOp.B3 = true := by kernel_rfl
def spec_FormatOp.T5 : Bool × List (List Nat × List Nat) := (true, [([], []), ([0], [0]), ([], []), ([2], [2]), ([3], [3]), ([1, 4], [1, 4]), ([5], [5]), ([], []), ([7], [7]), ([8, 4], [8]), ([6, 9], [6, 9]), ([10, 9, 0, 1, 2, 3, 4, 5, 6, 7, 8, 9, 10], [10])])
def spec_FormatOp.B5 : List Nat := [0, 1, 0, 4, 12, 31, 63, 0, 128, 412, 1023, 2047]
theorem spec_FormatOp.tab5 : rtab .any (opsOf Tryd.f91 5) = spec_FormatOp.T5 := by kernel_rfl
theorem spec_FormatOp.bits5 : waitsOk spec_FormatOp.T5.2 spec_FormatOp.B5 = true := by kernel_rfl
def spec_FormatOp.T6 : Bool × List (List Nat × List Nat) := (true, [([], []), ([0], [0]), ([], []), ([2], [2]), ([3], [3]), ([1, 4], [1, 4]), ([5], [5]), ([], []), ([7], [7]), ([8, 4], [8]), ([6, 9], [6, 9]), ([10], [10]), ([], []), ([12], [12]), ([13, 9], [13]), ([11, 14], [11, 14]), ([15, 14, 0, 1, 2, 3, 4, 5, 6, 7, 8, 9, 10, 11, 12, 13, 14, 15], [15])])
def spec_FormatOp.B6 : List Nat := [0, 1, 0, 4, 12, 31, 63, 0, 128, 412, 1023, 2047, 0, 4096, 13212, 32767, 65535]
theorem spec_FormatOp.tab6 : rtab .any (opsOf Tryd.f91 6) = spec_FormatOp.T6 := by kernel_rfl
theorem spec_FormatOp.bits6 : waitsOk spec_FormatOp.T6.2 spec_FormatOp.B6 = true := by kernel_rfl
set_option maxHeartbeats 8000000 in
set_option maxRecDepth 100000 in
theorem spec_FormatOp.calls (k : Nat) (a0_0 : Int) (a0_1 : Int) (a0_2 : Int) (a0_3 : Int) (a0_4 : Int) (a0_5 : Int) (r : ByteArray) (w : World) (h : spec_FormatOp.f k a0_0 a0_1 a0_2 a0_3 a0_4 a0_5 = some r) :
    Calls Tryd.prog 91 #[.agg #[.int .i64 a0_0, .int .i64 a0_1, .int .i64 a0_2, .int .i64 a0_3, .int .i64 a0_4, .int .i64 a0_5]] w fun e w' => e = .returned (.string r) ∧ Below w.heap.size w w' := by
  have hu64 := Tryd.underlying64
  have HB := Aside0.mk (Below.refl w.heap.size w)
  have H : ((spec_IsValidOp.f a0_0 a0_1 a0_2 a0_3 a0_4 a0_5).bind fun t380 => (if t380 = true then ((spec_FormatInt.f k a0_0).bind fun t381 => (if t381.size + 1 ≤ 9223372036854775807 then ((spec_FormatInt.f k a0_1).bind fun t382 => (if (t381 ++ (⟨#[46]⟩ : ByteArray)).size + t382.size ≤ 9223372036854775807 then (if ((t381 ++ (⟨#[46]⟩ : ByteArray)) ++ t382).size + 1 ≤ 9223372036854775807 then (if a0_2 = 1 then (if (((t381 ++ (⟨#[46]⟩ : ByteArray)) ++ t382) ++ (⟨#[32]⟩ : ByteArray)).size + 6 ≤ 9223372036854775807 then ((spec_FormatInt.f k a0_3).bind fun t383 => (if ((((t381 ++ (⟨#[46]⟩ : ByteArray)) ++ t382) ++ (⟨#[32]⟩ : ByteArray)) ++ (⟨#[119, 114, 105, 116, 101, 32]⟩ : ByteArray)).size + t383.size ≤ 9223372036854775807 then (if (((((t381 ++ (⟨#[46]⟩ : ByteArray)) ++ t382) ++ (⟨#[32]⟩ : ByteArray)) ++ (⟨#[119, 114, 105, 116, 101, 32]⟩ : ByteArray)) ++ t383).size + 1 ≤ 9223372036854775807 then ((spec_FormatInt.f k a0_5).bind fun t384 => (if ((((((t381 ++ (⟨#[46]⟩ : ByteArray)) ++ t382) ++ (⟨#[32]⟩ : ByteArray)) ++ (⟨#[119, 114, 105, 116, 101, 32]⟩ : ByteArray)) ++ t383) ++ (⟨#[32]⟩ : ByteArray)).size + t384.size ≤ 9223372036854775807 then (some (((((((t381 ++ (⟨#[46]⟩ : ByteArray)) ++ t382) ++ (⟨#[32]⟩ : ByteArray)) ++ (⟨#[119, 114, 105, 116, 101, 32]⟩ : ByteArray)) ++ t383) ++ (⟨#[32]⟩ : ByteArray)) ++ t384)) else (none))) else (none)) else (none))) else (none)) else (if (((t381 ++ (⟨#[46]⟩ : ByteArray)) ++ t382) ++ (⟨#[32]⟩ : ByteArray)).size + 5 ≤ 9223372036854775807 then ((spec_FormatInt.f k a0_3).bind fun t385 => (if ((((t381 ++ (⟨#[46]⟩ : ByteArray)) ++ t382) ++ (⟨#[32]⟩ : ByteArray)) ++ (⟨#[115, 119, 97, 112, 32]⟩ : ByteArray)).size + t385.size ≤ 9223372036854775807 then (if (((((t381 ++ (⟨#[46]⟩ : ByteArray)) ++ t382) ++ (⟨#[32]⟩ : ByteArray)) ++ (⟨#[115, 119, 97, 112, 32]⟩ : ByteArray)) ++ t385).size + 1 ≤ 9223372036854775807 then ((spec_FormatInt.f k a0_4).bind fun t386 => (if ((((((t381 ++ (⟨#[46]⟩ : ByteArray)) ++ t382) ++ (⟨#[32]⟩ : ByteArray)) ++ (⟨#[115, 119, 97, 112, 32]⟩ : ByteArray)) ++ t385) ++ (⟨#[32]⟩ : ByteArray)).size + t386.size ≤ 9223372036854775807 then (if (((((((t381 ++ (⟨#[46]⟩ : ByteArray)) ++ t382) ++ (⟨#[32]⟩ : ByteArray)) ++ (⟨#[115, 119, 97, 112, 32]⟩ : ByteArray)) ++ t385) ++ (⟨#[32]⟩ : ByteArray)) ++ t386).size + 1 ≤ 9223372036854775807 then ((spec_FormatInt.f k a0_5).bind fun t387 => (if ((((((((t381 ++ (⟨#[46]⟩ : ByteArray)) ++ t382) ++ (⟨#[32]⟩ : ByteArray)) ++ (⟨#[115, 119, 97, 112, 32]⟩ : ByteArray)) ++ t385) ++ (⟨#[32]⟩ : ByteArray)) ++ t386) ++ (⟨#[32]⟩ : ByteArray)).size + t387.size ≤ 9223372036854775807 then (some (((((((((t381 ++ (⟨#[46]⟩ : ByteArray)) ++ t382) ++ (⟨#[32]⟩ : ByteArray)) ++ (⟨#[115, 119, 97, 112, 32]⟩ : ByteArray)) ++ t385) ++ (⟨#[32]⟩ : ByteArray)) ++ t386) ++ (⟨#[32]⟩ : ByteArray)) ++ t387)) else (none))) else (none)) else (none))) else (none)) else (none))) else (none))) else (none)) else (none))) else (none))) else (some (⟨#[]⟩ : ByteArray)))) = some r := h
  clear h
  replace H := Option.bind_eq_some_iff.mp H
  obtain ⟨t380, A20, H⟩ := H
  try dsimp only at H
  have A2 := Aside0.mk A20
  clear A20
  go_enter Tryd.func91, Tryd.ntmps91
  go_wp2_with (first | ((with_reducible refine uR (N := 1) rfl ?_); refine bxe 1 #[.int .i64 a0_0, .int .i64 a0_1, .int .i64 a0_2, .int .i64 a0_3, .int .i64 a0_4, .int .i64 a0_5] 64 ?_; intro gb379 hg w46 hbox hb; have BK379 := Aside0.mk (hbox); have GW379 := tGe HB hg; have GE379 := tGe HB hg; replace HB := uQ HB hb; clear hb hbox hg; obtain ⟨hcz47_0, hcz47_1, hcz47_2, hcz47_3, hcz47_4, hcz47_5, hfz47_0, hfz47_1, hfz47_2, hfz47_3, hfz47_4, hfz47_5⟩ := cz6 BK379; refine ?roundEnd))
  case roundEnd =>
  by_cases c3 : t380 = true
  rotate_left
  · replace c3 := Bool.eq_false_iff.mpr c3
    subst c3
    try rw [if_neg (show ¬ (false = true) by decide)] at H
    obtain rfl := Option.some.inj H
    go_wp2_with (first | ((with_reducible refine uE (f := 49) rfl ?_); refine uL (some 5) Tryd.func49 #[.agg #[.int .i64 a0_0, .int .i64 a0_1, .int .i64 a0_2, .int .i64 a0_3, .int .i64 a0_4, .int .i64 a0_5]] ?_; (with_reducible refine (spec_IsValidOp.calls a0_0 a0_1 a0_2 a0_3 a0_4 a0_5 false _ A2.out).mono ?_); rintro e w48 ⟨rfl, hb⟩; refine ⟨_, rfl, ?_⟩; replace BK379 := tBlk BK379 hb; replace HB := uQ HB hb; (try clear hb); (try clear hb2); (try clear hk); (try clear hi)))
    go_ret
    exact ⟨q2, q3⟩
  subst c3
  try rw [if_pos rfl] at H
  replace H := Option.bind_eq_some_iff.mp H
  obtain ⟨t381, A40, H⟩ := H
  try dsimp only at H
  have A4 := Aside0.mk A40
  clear A40
  go_wp2_with (first | ((with_reducible refine uE (f := 49) rfl ?_); refine uL (some 5) Tryd.func49 #[.agg #[.int .i64 a0_0, .int .i64 a0_1, .int .i64 a0_2, .int .i64 a0_3, .int .i64 a0_4, .int .i64 a0_5]] ?_; (with_reducible refine (spec_IsValidOp.calls a0_0 a0_1 a0_2 a0_3 a0_4 a0_5 true _ A2.out).mono ?_); rintro e w18 ⟨rfl, hb⟩; refine ⟨_, rfl, ?_⟩; replace BK379 := tBlk BK379 hb; replace HB := uQ HB hb; (try clear hb); (try clear hb2); (try clear hk); (try clear hi); refine ?roundEnd))
  case roundEnd =>
  by_cases c5 : t381.size + 1 ≤ 9223372036854775807
  rotate_left
  · rw [if_neg c5] at H
    exact absurd H (by simp)
  rw [if_pos c5] at H
  have c5b0 := eq_true c5
  have c5b1 : decide (t381.size + 1 ≤ 9223372036854775807) = true := decide_eq_true c5
  try have c5b2 : (9223372036854775807 < t381.size + 1) = False := eq_false (Nat.not_lt.2 c5)
  replace H := Option.bind_eq_some_iff.mp H
  obtain ⟨t382, A60, H⟩ := H
  try dsimp only at H
  have A6 := Aside0.mk A60
  clear A60
  by_cases c7 : (t381 ++ (⟨#[46]⟩ : ByteArray)).size + t382.size ≤ 9223372036854775807
  rotate_left
  · rw [if_neg c7] at H
    exact absurd H (by simp)
  rw [if_pos c7] at H
  have c7b0 := eq_true c7
  have c7b1 : decide ((t381 ++ (⟨#[46]⟩ : ByteArray)).size + t382.size ≤ 9223372036854775807) = true := decide_eq_true c7
  try have c7b2 : (9223372036854775807 < (t381 ++ (⟨#[46]⟩ : ByteArray)).size + t382.size) = False := eq_false (Nat.not_lt.2 c7)
  have c7b3 : (9223372036854775807 < t381.size + 1 + t382.size) = False := eq_false (Nat.not_lt.2 (by have z_ := c7; (repeat rw [ByteArray.size_append] at z_); exact z_))
  by_cases c8 : ((t381 ++ (⟨#[46]⟩ : ByteArray)) ++ t382).size + 1 ≤ 9223372036854775807
  rotate_left
  · rw [if_neg c8] at H
    exact absurd H (by simp)
  rw [if_pos c8] at H
  have c8b0 := eq_true c8
  have c8b1 : decide (((t381 ++ (⟨#[46]⟩ : ByteArray)) ++ t382).size + 1 ≤ 9223372036854775807) = true := decide_eq_true c8
  try have c8b2 : (9223372036854775807 < ((t381 ++ (⟨#[46]⟩ : ByteArray)) ++ t382).size + 1) = False := eq_false (Nat.not_lt.2 c8)
  have c8b3 : (9223372036854775807 < t381.size + 1 + t382.size + 1) = False := eq_false (Nat.not_lt.2 (by have z_ := c8; (repeat rw [ByteArray.size_append] at z_); exact z_))
  by_cases c9 : a0_2 = 1
  · rw [if_pos c9] at H
    have c9b0 : (a0_2 == 1) = true := beq_iff_eq.mpr c9
    have c9b1 : (a0_2 != 1) = false := bne_eq_false_iff_eq.mpr c9
    clear c9
    by_cases c10 : (((t381 ++ (⟨#[46]⟩ : ByteArray)) ++ t382) ++ (⟨#[32]⟩ : ByteArray)).size + 6 ≤ 9223372036854775807
    rotate_left
    · rw [if_neg c10] at H
      exact absurd H (by simp)
    rw [if_pos c10] at H
    have c10b0 := eq_true c10
    have c10b1 : decide ((((t381 ++ (⟨#[46]⟩ : ByteArray)) ++ t382) ++ (⟨#[32]⟩ : ByteArray)).size + 6 ≤ 9223372036854775807) = true := decide_eq_true c10
    try have c10b2 : (9223372036854775807 < (((t381 ++ (⟨#[46]⟩ : ByteArray)) ++ t382) ++ (⟨#[32]⟩ : ByteArray)).size + 6) = False := eq_false (Nat.not_lt.2 c10)
    have c10b3 : (9223372036854775807 < t381.size + 1 + t382.size + 1 + 6) = False := eq_false (Nat.not_lt.2 (by have z_ := c10; (repeat rw [ByteArray.size_append] at z_); exact z_))
    replace H := Option.bind_eq_some_iff.mp H
    obtain ⟨t383, A110, H⟩ := H
    try dsimp only at H
    have A11 := Aside0.mk A110
    clear A110
    by_cases c12 : ((((t381 ++ (⟨#[46]⟩ : ByteArray)) ++ t382) ++ (⟨#[32]⟩ : ByteArray)) ++ (⟨#[119, 114, 105, 116, 101, 32]⟩ : ByteArray)).size + t383.size ≤ 9223372036854775807
    rotate_left
    · rw [if_neg c12] at H
      exact absurd H (by simp)
    rw [if_pos c12] at H
    have c12b0 := eq_true c12
    have c12b1 : decide (((((t381 ++ (⟨#[46]⟩ : ByteArray)) ++ t382) ++ (⟨#[32]⟩ : ByteArray)) ++ (⟨#[119, 114, 105, 116, 101, 32]⟩ : ByteArray)).size + t383.size ≤ 9223372036854775807) = true := decide_eq_true c12
    try have c12b2 : (9223372036854775807 < ((((t381 ++ (⟨#[46]⟩ : ByteArray)) ++ t382) ++ (⟨#[32]⟩ : ByteArray)) ++ (⟨#[119, 114, 105, 116, 101, 32]⟩ : ByteArray)).size + t383.size) = False := eq_false (Nat.not_lt.2 c12)
    have c12b3 : (9223372036854775807 < t381.size + 1 + t382.size + 1 + 6 + t383.size) = False := eq_false (Nat.not_lt.2 (by have z_ := c12; (repeat rw [ByteArray.size_append] at z_); exact z_))
    by_cases c13 : (((((t381 ++ (⟨#[46]⟩ : ByteArray)) ++ t382) ++ (⟨#[32]⟩ : ByteArray)) ++ (⟨#[119, 114, 105, 116, 101, 32]⟩ : ByteArray)) ++ t383).size + 1 ≤ 9223372036854775807
    rotate_left
    · rw [if_neg c13] at H
      exact absurd H (by simp)
    rw [if_pos c13] at H
    have c13b0 := eq_true c13
    have c13b1 : decide ((((((t381 ++ (⟨#[46]⟩ : ByteArray)) ++ t382) ++ (⟨#[32]⟩ : ByteArray)) ++ (⟨#[119, 114, 105, 116, 101, 32]⟩ : ByteArray)) ++ t383).size + 1 ≤ 9223372036854775807) = true := decide_eq_true c13
    try have c13b2 : (9223372036854775807 < (((((t381 ++ (⟨#[46]⟩ : ByteArray)) ++ t382) ++ (⟨#[32]⟩ : ByteArray)) ++ (⟨#[119, 114, 105, 116, 101, 32]⟩ : ByteArray)) ++ t383).size + 1) = False := eq_false (Nat.not_lt.2 c13)
    have c13b3 : (9223372036854775807 < t381.size + 1 + t382.size + 1 + 6 + t383.size + 1) = False := eq_false (Nat.not_lt.2 (by have z_ := c13; (repeat rw [ByteArray.size_append] at z_); exact z_))
    replace H := Option.bind_eq_some_iff.mp H
    obtain ⟨t384, A140, H⟩ := H
    try dsimp only at H
    have A14 := Aside0.mk A140
    clear A140
    by_cases c15 : ((((((t381 ++ (⟨#[46]⟩ : ByteArray)) ++ t382) ++ (⟨#[32]⟩ : ByteArray)) ++ (⟨#[119, 114, 105, 116, 101, 32]⟩ : ByteArray)) ++ t383) ++ (⟨#[32]⟩ : ByteArray)).size + t384.size ≤ 9223372036854775807
    rotate_left
    · rw [if_neg c15] at H
      exact absurd H (by simp)
    rw [if_pos c15] at H
    have c15b0 := eq_true c15
    have c15b1 : decide (((((((t381 ++ (⟨#[46]⟩ : ByteArray)) ++ t382) ++ (⟨#[32]⟩ : ByteArray)) ++ (⟨#[119, 114, 105, 116, 101, 32]⟩ : ByteArray)) ++ t383) ++ (⟨#[32]⟩ : ByteArray)).size + t384.size ≤ 9223372036854775807) = true := decide_eq_true c15
    try have c15b2 : (9223372036854775807 < ((((((t381 ++ (⟨#[46]⟩ : ByteArray)) ++ t382) ++ (⟨#[32]⟩ : ByteArray)) ++ (⟨#[119, 114, 105, 116, 101, 32]⟩ : ByteArray)) ++ t383) ++ (⟨#[32]⟩ : ByteArray)).size + t384.size) = False := eq_false (Nat.not_lt.2 c15)
    have c15b3 : (9223372036854775807 < t381.size + 1 + t382.size + 1 + 6 + t383.size + 1 + t384.size) = False := eq_false (Nat.not_lt.2 (by have z_ := c15; (repeat rw [ByteArray.size_append] at z_); exact z_))
    obtain rfl := Option.some.inj H
    try go_wp2
    replace BK379 := Aside0.mk (uI BK379.out)
    replace HB := Aside0.mk (below_drew1 HB.out)
    refine start_ (n := 10) (S := fun w' => w'.cell? ⟨gb379, 0, none⟩ = some (.int .i64 a0_0) ∧ w'.cell? ⟨gb379, 1, none⟩ = some (.int .i64 a0_1) ∧ w'.cell? ⟨gb379, 2, none⟩ = some (.int .i64 a0_2) ∧ w'.cell? ⟨gb379, 3, none⟩ = some (.int .i64 a0_3) ∧ w'.cell? ⟨gb379, 4, none⟩ = some (.int .i64 a0_4) ∧ w'.cell? ⟨gb379, 5, none⟩ = some (.int .i64 a0_5)) (ds := []) tb41 (by kernel_rfl) rfl rfl ⟨(uA BK379.out 0).trans rfl, (uA BK379.out 1).trans rfl, (uA BK379.out 2).trans rfl, (uA BK379.out 3).trans rfl, (uA BK379.out 4).trans rfl, (uA BK379.out 5).trans rfl⟩ (fun hHeld => ?_); refine with_tabW spec_FormatOp.tab3 spec_FormatOp.bits3 (fun HT_ HW_ => ?_)
    generalize w18.drew = w19 at BK379 HB hHeld ⊢
    refine uC (i := 0) (N := some 7) (v := ?_) (a' := ?_) tb42 rfl rfl (uK HT_.out (by kernel_rfl)) (fun _ _ _ h => h) (Or.inl ⟨by rfl, ?_⟩) ?_ ?_
    rotate_left
    · intro w'
      go_simp
      with_reducible rfl
    rotate_left
    · simp only [Act.put, uY, uZ, vA, uB, uD]
      rfl
    refine uC (i := 4) (N := some 11) (v := ?_) (a' := ?_) tb43 rfl rfl (uK HT_.out (by kernel_rfl)) (fun _ _ _ h => h) (Or.inl ⟨by rfl, ?_⟩) ?_ ?_
    rotate_left
    · intro w'
      go_simp
      with_reducible rfl
    rotate_left
    · simp only [Act.put, uY, uZ, vA, uB, uD]
      rfl
    refine take_ (i := 1) (N := some 8) (v := ?_) (a' := ?_) tb44 rfl rfl (take_ofW HT_.out HW_.out (by kernel_rfl)) (fun _ _ _ h => h) (Or.inl ⟨by rfl, ?_⟩) hHeld ?_ ?_
    rotate_left
    · rintro w' ⟨s0, s1, s2, s3, s4, s5⟩
      go_simp
      with_reducible rfl
    rotate_left
    · simp only [Act.put, uY, uZ, vA, uB, uD]
      rfl
    refine take_ (i := 5) (N := some 12) (v := ?_) (a' := ?_) tb45 rfl rfl (take_ofW HT_.out HW_.out (by kernel_rfl)) (fun _ _ _ h => h) (Or.inl ⟨by rfl, ?_⟩) hHeld ?_ ?_
    rotate_left
    · rintro w' ⟨s0, s1, s2, s3, s4, s5⟩
      go_simp
      with_reducible rfl
    rotate_left
    · simp only [Act.put, uY, uZ, vA, uB, uD]
      rfl
    refine one_ (i := 2) (N := some 9) tb46 rfl rfl (one_of HT_.out (by kernel_rfl)) (by decide) (fun K hK => ?_)
    refine goes_ Tryd.func90 (by kernel_rfl) rfl #[.int .i64 a0_0] (by rfl) rfl rfl q8 ?_
    with_reducible refine (spec_FormatInt.calls k a0_0 t381 _ A4.out).mono ?_
    rintro e w20 ⟨rfl, hb⟩
    refine ⟨_, rfl, ?_⟩
    replace BK379 := tBlk BK379 hb
    replace HB := uQ HB hb
    (try clear hb)
    (try clear hb2)
    (try clear hk)
    (try clear hi)
    refine hK.out _ _ ⟨(uA BK379.out 0).trans rfl, (uA BK379.out 1).trans rfl, (uA BK379.out 2).trans rfl, (uA BK379.out 3).trans rfl, (uA BK379.out 4).trans rfl, (uA BK379.out 5).trans rfl⟩ (fun hHeld => ?_)
    clear hK K
    refine norm_ (a' := ?_) ?_ ?_
    rotate_left
    · show Act.put _ (some 9) _ = _
      simp only [Act.put, uY, uZ, vA, uB, uD]
      rfl
    refine uC (i := 3) (N := some 10) (v := ?_) (a' := ?_) tb47 rfl rfl (uK HT_.out (by kernel_rfl)) (fun _ _ _ h => h) (Or.inl ⟨by rfl, ?_⟩) ?_ ?_
    rotate_left
    · intro w'
      go_simp
      with_reducible rfl
    rotate_left
    · simp only [Act.put, uY, uZ, vA, uB, uD]
      rfl
    refine one_ (i := 6) (N := some 13) tb49 rfl rfl (one_of HT_.out (by kernel_rfl)) (by decide) (fun K hK => ?_)
    refine goes_ Tryd.func90 (by kernel_rfl) rfl #[.int .i64 a0_1] (by rfl) rfl rfl q8 ?_
    with_reducible refine (spec_FormatInt.calls k a0_1 t382 _ A6.out).mono ?_
    rintro e w21 ⟨rfl, hb⟩
    refine ⟨_, rfl, ?_⟩
    replace BK379 := tBlk BK379 hb
    replace HB := uQ HB hb
    (try clear hb)
    (try clear hb2)
    (try clear hk)
    (try clear hi)
    refine hK.out _ _ ⟨(uA BK379.out 0).trans rfl, (uA BK379.out 1).trans rfl, (uA BK379.out 2).trans rfl, (uA BK379.out 3).trans rfl, (uA BK379.out 4).trans rfl, (uA BK379.out 5).trans rfl⟩ (fun hHeld => ?_)
    clear hK K
    refine norm_ (a' := ?_) ?_ ?_
    rotate_left
    · show Act.put _ (some 13) _ = _
      simp only [Act.put, uY, uZ, vA, uB, uD]
      rfl
    refine uC (i := 7) (N := some 14) (v := ?_) (a' := ?_) tb53 rfl rfl (uK HT_.out (by kernel_rfl)) (fun _ _ _ h => h) (Or.inl ⟨by rfl, ?_⟩) ?_ ?_
    rotate_left
    · intro w'
      go_simp
      with_reducible rfl
    rotate_left
    · simp only [Act.put, uY, uZ, vA, uB, uD]
      rfl
    refine uC (i := 8) (N := some 15) (v := ?_) (a' := ?_) tb57 rfl rfl (uK HT_.out (by kernel_rfl)) (fun _ _ _ h => h) (Or.inl ⟨by rfl, ?_⟩) ?_ ?_
    rotate_left
    · intro w'
      go_simp
      with_reducible rfl
    rotate_left
    · simp only [Act.put, uY, uZ, vA, uB, uD]
      rfl
    refine uC (i := 9) (N := some 3) (v := ?_) (a' := ?_) tb61 rfl rfl (uK HT_.out (by kernel_rfl)) (fun _ _ _ h => h) (Or.inl ⟨by rfl, ?_⟩) ?_ ?_
    rotate_left
    · intro w'
      go_simp
      with_reducible rfl
    rotate_left
    · simp only [Act.put, uY, uZ, vA, uB, uD]
      rfl
    refine done_ (done_of HT_.out (by kernel_rfl)) ?_
    obtain ⟨hcz22_0, hcz22_1, hcz22_2, hcz22_3, hcz22_4, hcz22_5, hfz22_0, hfz22_1, hfz22_2, hfz22_3, hfz22_4, hfz22_5⟩ := cz6 BK379
    try go_wp2
    replace BK379 := Aside0.mk (uI BK379.out)
    replace HB := Aside0.mk (below_drew1 HB.out)
    refine start_ (n := 12) (S := fun w' => w'.cell? ⟨gb379, 0, none⟩ = some (.int .i64 a0_0) ∧ w'.cell? ⟨gb379, 1, none⟩ = some (.int .i64 a0_1) ∧ w'.cell? ⟨gb379, 2, none⟩ = some (.int .i64 a0_2) ∧ w'.cell? ⟨gb379, 3, none⟩ = some (.int .i64 a0_3) ∧ w'.cell? ⟨gb379, 4, none⟩ = some (.int .i64 a0_4) ∧ w'.cell? ⟨gb379, 5, none⟩ = some (.int .i64 a0_5)) (ds := []) tb8 (by kernel_rfl) rfl rfl ⟨(uA BK379.out 0).trans rfl, (uA BK379.out 1).trans rfl, (uA BK379.out 2).trans rfl, (uA BK379.out 3).trans rfl, (uA BK379.out 4).trans rfl, (uA BK379.out 5).trans rfl⟩ (fun hHeld => ?_); refine with_tabW spec_FormatOp.tab5 spec_FormatOp.bits5 (fun HT_ HW_ => ?_)
    generalize w21.drew = w23 at BK379 HB hHeld ⊢
    refine uC (i := 0) (N := some 19) (v := ?_) (a' := ?_) tb9 rfl rfl (uK HT_.out (by kernel_rfl)) (fun _ _ _ h => h) (Or.inl ⟨by rfl, ?_⟩) ?_ ?_
    rotate_left
    · intro w'
      go_simp
      with_reducible rfl
    rotate_left
    · simp only [Act.put, uY, uZ, vA, uB, uD]
      rfl
    refine uC (i := 1) (N := some 20) (v := ?_) (a' := ?_) tb10 rfl rfl (uK HT_.out (by kernel_rfl)) (fun _ _ _ h => h) (Or.inl ⟨by rfl, ?_⟩) ?_ ?_
    rotate_left
    · intro w'
      go_simp
      with_reducible rfl
    rotate_left
    · simp only [Act.put, uY, uZ, vA, uB, uD]
      rfl
    refine uC (i := 2) (N := some 21) (v := ?_) (a' := ?_) tb35 rfl rfl (uK HT_.out (by kernel_rfl)) (fun _ _ _ h => h) (Or.inl ⟨by rfl, ?_⟩) ?_ ?_
    rotate_left
    · intro w'
      go_simp
      with_reducible rfl
    rotate_left
    · simp only [Act.put, uY, uZ, vA, uB, uD]
      rfl
    refine uC (i := 7) (N := some 26) (v := ?_) (a' := ?_) tb36 rfl rfl (uK HT_.out (by kernel_rfl)) (fun _ _ _ h => h) (Or.inl ⟨by rfl, ?_⟩) ?_ ?_
    rotate_left
    · intro w'
      go_simp
      with_reducible rfl
    rotate_left
    · simp only [Act.put, uY, uZ, vA, uB, uD]
      rfl
    refine take_ (i := 3) (N := some 22) (v := ?_) (a' := ?_) tb37 rfl rfl (take_ofW HT_.out HW_.out (by kernel_rfl)) (fun _ _ _ h => h) (Or.inl ⟨by rfl, ?_⟩) hHeld ?_ ?_
    rotate_left
    · rintro w' ⟨s0, s1, s2, s3, s4, s5⟩
      go_simp
      with_reducible rfl
    rotate_left
    · simp only [Act.put, uY, uZ, vA, uB, uD]
      rfl
    refine take_ (i := 8) (N := some 27) (v := ?_) (a' := ?_) tb38 rfl rfl (take_ofW HT_.out HW_.out (by kernel_rfl)) (fun _ _ _ h => h) (Or.inl ⟨by rfl, ?_⟩) hHeld ?_ ?_
    rotate_left
    · rintro w' ⟨s0, s1, s2, s3, s4, s5⟩
      go_simp
      with_reducible rfl
    rotate_left
    · simp only [Act.put, uY, uZ, vA, uB, uD]
      rfl
    refine one_ (i := 4) (N := some 23) tb39 rfl rfl (one_of HT_.out (by kernel_rfl)) (by decide) (fun K hK => ?_)
    refine goes_ Tryd.func90 (by kernel_rfl) rfl #[.int .i64 a0_3] (by rfl) rfl rfl q8 ?_
    with_reducible refine (spec_FormatInt.calls k a0_3 t383 _ A11.out).mono ?_
    rintro e w24 ⟨rfl, hb⟩
    refine ⟨_, rfl, ?_⟩
    replace BK379 := tBlk BK379 hb
    replace HB := uQ HB hb
    (try clear hb)
    (try clear hb2)
    (try clear hk)
    (try clear hi)
    refine hK.out _ _ ⟨(uA BK379.out 0).trans rfl, (uA BK379.out 1).trans rfl, (uA BK379.out 2).trans rfl, (uA BK379.out 3).trans rfl, (uA BK379.out 4).trans rfl, (uA BK379.out 5).trans rfl⟩ (fun hHeld => ?_)
    clear hK K
    refine norm_ (a' := ?_) ?_ ?_
    rotate_left
    · show Act.put _ (some 23) _ = _
      simp only [Act.put, uY, uZ, vA, uB, uD]
      rfl
    refine uC (i := 5) (N := some 24) (v := ?_) (a' := ?_) tb40 rfl rfl (uK HT_.out (by kernel_rfl)) (fun _ _ _ h => h) (Or.inl ⟨by rfl, ?_⟩) ?_ ?_
    rotate_left
    · intro w'
      go_simp
      with_reducible rfl
    rotate_left
    · simp only [Act.put, uY, uZ, vA, uB, uD]
      rfl
    refine uC (i := 6) (N := some 25) (v := ?_) (a' := ?_) tb16 rfl rfl (uK HT_.out (by kernel_rfl)) (fun _ _ _ h => h) (Or.inl ⟨by rfl, ?_⟩) ?_ ?_
    rotate_left
    · intro w'
      go_simp
      with_reducible rfl
    rotate_left
    · simp only [Act.put, uY, uZ, vA, uB, uD]
      rfl
    refine one_ (i := 9) (N := some 28) tb20 rfl rfl (one_of HT_.out (by kernel_rfl)) (by decide) (fun K hK => ?_)
    refine goes_ Tryd.func90 (by kernel_rfl) rfl #[.int .i64 a0_5] (by rfl) rfl rfl q8 ?_
    with_reducible refine (spec_FormatInt.calls k a0_5 t384 _ A14.out).mono ?_
    rintro e w25 ⟨rfl, hb⟩
    refine ⟨_, rfl, ?_⟩
    replace BK379 := tBlk BK379 hb
    replace HB := uQ HB hb
    (try clear hb)
    (try clear hb2)
    (try clear hk)
    (try clear hi)
    refine hK.out _ _ ⟨(uA BK379.out 0).trans rfl, (uA BK379.out 1).trans rfl, (uA BK379.out 2).trans rfl, (uA BK379.out 3).trans rfl, (uA BK379.out 4).trans rfl, (uA BK379.out 5).trans rfl⟩ (fun hHeld => ?_)
    clear hK K
    refine norm_ (a' := ?_) ?_ ?_
    rotate_left
    · show Act.put _ (some 28) _ = _
      simp only [Act.put, uY, uZ, vA, uB, uD]
      rfl
    refine uC (i := 10) (N := some 29) (v := ?_) (a' := ?_) tb24 rfl rfl (uK HT_.out (by kernel_rfl)) (fun _ _ _ h => h) (Or.inl ⟨by rfl, ?_⟩) ?_ ?_
    rotate_left
    · intro w'
      go_simp
      with_reducible rfl
    rotate_left
    · simp only [Act.put, uY, uZ, vA, uB, uD]
      rfl
    refine uC (i := 11) (N := some 2) (v := ?_) (a' := ?_) tb28 rfl rfl (uK HT_.out (by kernel_rfl)) (fun _ _ _ h => h) (Or.inl ⟨by rfl, ?_⟩) ?_ ?_
    rotate_left
    · intro w'
      go_simp
      with_reducible rfl
    rotate_left
    · simp only [Act.put, uY, uZ, vA, uB, uD]
      rfl
    refine done_ (done_of HT_.out (by kernel_rfl)) ?_
    try go_wp2
    go_ret
    exact ⟨q2, q3⟩
  rw [if_neg c9] at H
  have c9b0 : (a0_2 == 1) = false := beq_eq_false_iff_ne.mpr c9
  have c9b1 : (a0_2 != 1) = true := bne_iff_ne.mpr c9
  by_cases c26 : (((t381 ++ (⟨#[46]⟩ : ByteArray)) ++ t382) ++ (⟨#[32]⟩ : ByteArray)).size + 5 ≤ 9223372036854775807
  rotate_left
  · rw [if_neg c26] at H
    exact absurd H (by simp)
  rw [if_pos c26] at H
  have c26b0 := eq_true c26
  have c26b1 : decide ((((t381 ++ (⟨#[46]⟩ : ByteArray)) ++ t382) ++ (⟨#[32]⟩ : ByteArray)).size + 5 ≤ 9223372036854775807) = true := decide_eq_true c26
  try have c26b2 : (9223372036854775807 < (((t381 ++ (⟨#[46]⟩ : ByteArray)) ++ t382) ++ (⟨#[32]⟩ : ByteArray)).size + 5) = False := eq_false (Nat.not_lt.2 c26)
  have c26b3 : (9223372036854775807 < t381.size + 1 + t382.size + 1 + 5) = False := eq_false (Nat.not_lt.2 (by have z_ := c26; (repeat rw [ByteArray.size_append] at z_); exact z_))
  replace H := Option.bind_eq_some_iff.mp H
  obtain ⟨t385, A270, H⟩ := H
  try dsimp only at H
  have A27 := Aside0.mk A270
  clear A270
  by_cases c28 : ((((t381 ++ (⟨#[46]⟩ : ByteArray)) ++ t382) ++ (⟨#[32]⟩ : ByteArray)) ++ (⟨#[115, 119, 97, 112, 32]⟩ : ByteArray)).size + t385.size ≤ 9223372036854775807
  rotate_left
  · rw [if_neg c28] at H
    exact absurd H (by simp)
  rw [if_pos c28] at H
  have c28b0 := eq_true c28
  have c28b1 : decide (((((t381 ++ (⟨#[46]⟩ : ByteArray)) ++ t382) ++ (⟨#[32]⟩ : ByteArray)) ++ (⟨#[115, 119, 97, 112, 32]⟩ : ByteArray)).size + t385.size ≤ 9223372036854775807) = true := decide_eq_true c28
  try have c28b2 : (9223372036854775807 < ((((t381 ++ (⟨#[46]⟩ : ByteArray)) ++ t382) ++ (⟨#[32]⟩ : ByteArray)) ++ (⟨#[115, 119, 97, 112, 32]⟩ : ByteArray)).size + t385.size) = False := eq_false (Nat.not_lt.2 c28)
  have c28b3 : (9223372036854775807 < t381.size + 1 + t382.size + 1 + 5 + t385.size) = False := eq_false (Nat.not_lt.2 (by have z_ := c28; (repeat rw [ByteArray.size_append] at z_); exact z_))
  by_cases c29 : (((((t381 ++ (⟨#[46]⟩ : ByteArray)) ++ t382) ++ (⟨#[32]⟩ : ByteArray)) ++ (⟨#[115, 119, 97, 112, 32]⟩ : ByteArray)) ++ t385).size + 1 ≤ 9223372036854775807
  rotate_left
  · rw [if_neg c29] at H
    exact absurd H (by simp)
  rw [if_pos c29] at H
  have c29b0 := eq_true c29
  have c29b1 : decide ((((((t381 ++ (⟨#[46]⟩ : ByteArray)) ++ t382) ++ (⟨#[32]⟩ : ByteArray)) ++ (⟨#[115, 119, 97, 112, 32]⟩ : ByteArray)) ++ t385).size + 1 ≤ 9223372036854775807) = true := decide_eq_true c29
  try have c29b2 : (9223372036854775807 < (((((t381 ++ (⟨#[46]⟩ : ByteArray)) ++ t382) ++ (⟨#[32]⟩ : ByteArray)) ++ (⟨#[115, 119, 97, 112, 32]⟩ : ByteArray)) ++ t385).size + 1) = False := eq_false (Nat.not_lt.2 c29)
  have c29b3 : (9223372036854775807 < t381.size + 1 + t382.size + 1 + 5 + t385.size + 1) = False := eq_false (Nat.not_lt.2 (by have z_ := c29; (repeat rw [ByteArray.size_append] at z_); exact z_))
  replace H := Option.bind_eq_some_iff.mp H
  obtain ⟨t386, A300, H⟩ := H
  try dsimp only at H
  have A30 := Aside0.mk A300
  clear A300
  by_cases c31 : ((((((t381 ++ (⟨#[46]⟩ : ByteArray)) ++ t382) ++ (⟨#[32]⟩ : ByteArray)) ++ (⟨#[115, 119, 97, 112, 32]⟩ : ByteArray)) ++ t385) ++ (⟨#[32]⟩ : ByteArray)).size + t386.size ≤ 9223372036854775807
  rotate_left
  · rw [if_neg c31] at H
    exact absurd H (by simp)
  rw [if_pos c31] at H
  have c31b0 := eq_true c31
  have c31b1 : decide (((((((t381 ++ (⟨#[46]⟩ : ByteArray)) ++ t382) ++ (⟨#[32]⟩ : ByteArray)) ++ (⟨#[115, 119, 97, 112, 32]⟩ : ByteArray)) ++ t385) ++ (⟨#[32]⟩ : ByteArray)).size + t386.size ≤ 9223372036854775807) = true := decide_eq_true c31
  try have c31b2 : (9223372036854775807 < ((((((t381 ++ (⟨#[46]⟩ : ByteArray)) ++ t382) ++ (⟨#[32]⟩ : ByteArray)) ++ (⟨#[115, 119, 97, 112, 32]⟩ : ByteArray)) ++ t385) ++ (⟨#[32]⟩ : ByteArray)).size + t386.size) = False := eq_false (Nat.not_lt.2 c31)
  have c31b3 : (9223372036854775807 < t381.size + 1 + t382.size + 1 + 5 + t385.size + 1 + t386.size) = False := eq_false (Nat.not_lt.2 (by have z_ := c31; (repeat rw [ByteArray.size_append] at z_); exact z_))
  by_cases c32 : (((((((t381 ++ (⟨#[46]⟩ : ByteArray)) ++ t382) ++ (⟨#[32]⟩ : ByteArray)) ++ (⟨#[115, 119, 97, 112, 32]⟩ : ByteArray)) ++ t385) ++ (⟨#[32]⟩ : ByteArray)) ++ t386).size + 1 ≤ 9223372036854775807
  rotate_left
  · rw [if_neg c32] at H
    exact absurd H (by simp)
  rw [if_pos c32] at H
  have c32b0 := eq_true c32
  have c32b1 : decide ((((((((t381 ++ (⟨#[46]⟩ : ByteArray)) ++ t382) ++ (⟨#[32]⟩ : ByteArray)) ++ (⟨#[115, 119, 97, 112, 32]⟩ : ByteArray)) ++ t385) ++ (⟨#[32]⟩ : ByteArray)) ++ t386).size + 1 ≤ 9223372036854775807) = true := decide_eq_true c32
  try have c32b2 : (9223372036854775807 < (((((((t381 ++ (⟨#[46]⟩ : ByteArray)) ++ t382) ++ (⟨#[32]⟩ : ByteArray)) ++ (⟨#[115, 119, 97, 112, 32]⟩ : ByteArray)) ++ t385) ++ (⟨#[32]⟩ : ByteArray)) ++ t386).size + 1) = False := eq_false (Nat.not_lt.2 c32)
  have c32b3 : (9223372036854775807 < t381.size + 1 + t382.size + 1 + 5 + t385.size + 1 + t386.size + 1) = False := eq_false (Nat.not_lt.2 (by have z_ := c32; (repeat rw [ByteArray.size_append] at z_); exact z_))
  replace H := Option.bind_eq_some_iff.mp H
  obtain ⟨t387, A330, H⟩ := H
  try dsimp only at H
  have A33 := Aside0.mk A330
  clear A330
  by_cases c34 : ((((((((t381 ++ (⟨#[46]⟩ : ByteArray)) ++ t382) ++ (⟨#[32]⟩ : ByteArray)) ++ (⟨#[115, 119, 97, 112, 32]⟩ : ByteArray)) ++ t385) ++ (⟨#[32]⟩ : ByteArray)) ++ t386) ++ (⟨#[32]⟩ : ByteArray)).size + t387.size ≤ 9223372036854775807
  rotate_left
  · rw [if_neg c34] at H
    exact absurd H (by simp)
  rw [if_pos c34] at H
  have c34b0 := eq_true c34
  have c34b1 : decide (((((((((t381 ++ (⟨#[46]⟩ : ByteArray)) ++ t382) ++ (⟨#[32]⟩ : ByteArray)) ++ (⟨#[115, 119, 97, 112, 32]⟩ : ByteArray)) ++ t385) ++ (⟨#[32]⟩ : ByteArray)) ++ t386) ++ (⟨#[32]⟩ : ByteArray)).size + t387.size ≤ 9223372036854775807) = true := decide_eq_true c34
  try have c34b2 : (9223372036854775807 < ((((((((t381 ++ (⟨#[46]⟩ : ByteArray)) ++ t382) ++ (⟨#[32]⟩ : ByteArray)) ++ (⟨#[115, 119, 97, 112, 32]⟩ : ByteArray)) ++ t385) ++ (⟨#[32]⟩ : ByteArray)) ++ t386) ++ (⟨#[32]⟩ : ByteArray)).size + t387.size) = False := eq_false (Nat.not_lt.2 c34)
  have c34b3 : (9223372036854775807 < t381.size + 1 + t382.size + 1 + 5 + t385.size + 1 + t386.size + 1 + t387.size) = False := eq_false (Nat.not_lt.2 (by have z_ := c34; (repeat rw [ByteArray.size_append] at z_); exact z_))
  obtain rfl := Option.some.inj H
  try go_wp2
  replace BK379 := Aside0.mk (uI BK379.out)
  replace HB := Aside0.mk (below_drew1 HB.out)
  refine start_ (n := 10) (S := fun w' => w'.cell? ⟨gb379, 0, none⟩ = some (.int .i64 a0_0) ∧ w'.cell? ⟨gb379, 1, none⟩ = some (.int .i64 a0_1) ∧ w'.cell? ⟨gb379, 2, none⟩ = some (.int .i64 a0_2) ∧ w'.cell? ⟨gb379, 3, none⟩ = some (.int .i64 a0_3) ∧ w'.cell? ⟨gb379, 4, none⟩ = some (.int .i64 a0_4) ∧ w'.cell? ⟨gb379, 5, none⟩ = some (.int .i64 a0_5)) (ds := []) tb41 (by kernel_rfl) rfl rfl ⟨(uA BK379.out 0).trans rfl, (uA BK379.out 1).trans rfl, (uA BK379.out 2).trans rfl, (uA BK379.out 3).trans rfl, (uA BK379.out 4).trans rfl, (uA BK379.out 5).trans rfl⟩ (fun hHeld => ?_); refine with_tabW spec_FormatOp.tab3 spec_FormatOp.bits3 (fun HT_ HW_ => ?_)
  generalize w18.drew = w38 at BK379 HB hHeld ⊢
  refine uC (i := 0) (N := some 7) (v := ?_) (a' := ?_) tb42 rfl rfl (uK HT_.out (by kernel_rfl)) (fun _ _ _ h => h) (Or.inl ⟨by rfl, ?_⟩) ?_ ?_
  rotate_left
  · intro w'
    go_simp
    with_reducible rfl
  rotate_left
  · simp only [Act.put, uY, uZ, vA, uB, uD]
    rfl
  refine uC (i := 4) (N := some 11) (v := ?_) (a' := ?_) tb43 rfl rfl (uK HT_.out (by kernel_rfl)) (fun _ _ _ h => h) (Or.inl ⟨by rfl, ?_⟩) ?_ ?_
  rotate_left
  · intro w'
    go_simp
    with_reducible rfl
  rotate_left
  · simp only [Act.put, uY, uZ, vA, uB, uD]
    rfl
  refine take_ (i := 1) (N := some 8) (v := ?_) (a' := ?_) tb44 rfl rfl (take_ofW HT_.out HW_.out (by kernel_rfl)) (fun _ _ _ h => h) (Or.inl ⟨by rfl, ?_⟩) hHeld ?_ ?_
  rotate_left
  · rintro w' ⟨s0, s1, s2, s3, s4, s5⟩
    go_simp
    with_reducible rfl
  rotate_left
  · simp only [Act.put, uY, uZ, vA, uB, uD]
    rfl
  refine take_ (i := 5) (N := some 12) (v := ?_) (a' := ?_) tb45 rfl rfl (take_ofW HT_.out HW_.out (by kernel_rfl)) (fun _ _ _ h => h) (Or.inl ⟨by rfl, ?_⟩) hHeld ?_ ?_
  rotate_left
  · rintro w' ⟨s0, s1, s2, s3, s4, s5⟩
    go_simp
    with_reducible rfl
  rotate_left
  · simp only [Act.put, uY, uZ, vA, uB, uD]
    rfl
  refine one_ (i := 2) (N := some 9) tb46 rfl rfl (one_of HT_.out (by kernel_rfl)) (by decide) (fun K hK => ?_)
  refine goes_ Tryd.func90 (by kernel_rfl) rfl #[.int .i64 a0_0] (by rfl) rfl rfl q8 ?_
  with_reducible refine (spec_FormatInt.calls k a0_0 t381 _ A4.out).mono ?_
  rintro e w39 ⟨rfl, hb⟩
  refine ⟨_, rfl, ?_⟩
  replace BK379 := tBlk BK379 hb
  replace HB := uQ HB hb
  (try clear hb)
  (try clear hb2)
  (try clear hk)
  (try clear hi)
  refine hK.out _ _ ⟨(uA BK379.out 0).trans rfl, (uA BK379.out 1).trans rfl, (uA BK379.out 2).trans rfl, (uA BK379.out 3).trans rfl, (uA BK379.out 4).trans rfl, (uA BK379.out 5).trans rfl⟩ (fun hHeld => ?_)
  clear hK K
  refine norm_ (a' := ?_) ?_ ?_
  rotate_left
  · show Act.put _ (some 9) _ = _
    simp only [Act.put, uY, uZ, vA, uB, uD]
    rfl
  refine uC (i := 3) (N := some 10) (v := ?_) (a' := ?_) tb47 rfl rfl (uK HT_.out (by kernel_rfl)) (fun _ _ _ h => h) (Or.inl ⟨by rfl, ?_⟩) ?_ ?_
  rotate_left
  · intro w'
    go_simp
    with_reducible rfl
  rotate_left
  · simp only [Act.put, uY, uZ, vA, uB, uD]
    rfl
  refine one_ (i := 6) (N := some 13) tb49 rfl rfl (one_of HT_.out (by kernel_rfl)) (by decide) (fun K hK => ?_)
  refine goes_ Tryd.func90 (by kernel_rfl) rfl #[.int .i64 a0_1] (by rfl) rfl rfl q8 ?_
  with_reducible refine (spec_FormatInt.calls k a0_1 t382 _ A6.out).mono ?_
  rintro e w40 ⟨rfl, hb⟩
  refine ⟨_, rfl, ?_⟩
  replace BK379 := tBlk BK379 hb
  replace HB := uQ HB hb
  (try clear hb)
  (try clear hb2)
  (try clear hk)
  (try clear hi)
  refine hK.out _ _ ⟨(uA BK379.out 0).trans rfl, (uA BK379.out 1).trans rfl, (uA BK379.out 2).trans rfl, (uA BK379.out 3).trans rfl, (uA BK379.out 4).trans rfl, (uA BK379.out 5).trans rfl⟩ (fun hHeld => ?_)
  clear hK K
  refine norm_ (a' := ?_) ?_ ?_
  rotate_left
  · show Act.put _ (some 13) _ = _
    simp only [Act.put, uY, uZ, vA, uB, uD]
    rfl
  refine uC (i := 7) (N := some 14) (v := ?_) (a' := ?_) tb53 rfl rfl (uK HT_.out (by kernel_rfl)) (fun _ _ _ h => h) (Or.inl ⟨by rfl, ?_⟩) ?_ ?_
  rotate_left
  · intro w'
    go_simp
    with_reducible rfl
  rotate_left
  · simp only [Act.put, uY, uZ, vA, uB, uD]
    rfl
  refine uC (i := 8) (N := some 15) (v := ?_) (a' := ?_) tb57 rfl rfl (uK HT_.out (by kernel_rfl)) (fun _ _ _ h => h) (Or.inl ⟨by rfl, ?_⟩) ?_ ?_
  rotate_left
  · intro w'
    go_simp
    with_reducible rfl
  rotate_left
  · simp only [Act.put, uY, uZ, vA, uB, uD]
    rfl
  refine uC (i := 9) (N := some 3) (v := ?_) (a' := ?_) tb61 rfl rfl (uK HT_.out (by kernel_rfl)) (fun _ _ _ h => h) (Or.inl ⟨by rfl, ?_⟩) ?_ ?_
  rotate_left
  · intro w'
    go_simp
    with_reducible rfl
  rotate_left
  · simp only [Act.put, uY, uZ, vA, uB, uD]
    rfl
  refine done_ (done_of HT_.out (by kernel_rfl)) ?_
  obtain ⟨hcz41_0, hcz41_1, hcz41_2, hcz41_3, hcz41_4, hcz41_5, hfz41_0, hfz41_1, hfz41_2, hfz41_3, hfz41_4, hfz41_5⟩ := cz6 BK379
  try go_wp2
  replace BK379 := Aside0.mk (uI BK379.out)
  replace HB := Aside0.mk (below_drew1 HB.out)
  refine start_ (n := 17) (S := fun w' => w'.cell? ⟨gb379, 0, none⟩ = some (.int .i64 a0_0) ∧ w'.cell? ⟨gb379, 1, none⟩ = some (.int .i64 a0_1) ∧ w'.cell? ⟨gb379, 2, none⟩ = some (.int .i64 a0_2) ∧ w'.cell? ⟨gb379, 3, none⟩ = some (.int .i64 a0_3) ∧ w'.cell? ⟨gb379, 4, none⟩ = some (.int .i64 a0_4) ∧ w'.cell? ⟨gb379, 5, none⟩ = some (.int .i64 a0_5)) (ds := []) tb0 (by kernel_rfl) rfl rfl ⟨(uA BK379.out 0).trans rfl, (uA BK379.out 1).trans rfl, (uA BK379.out 2).trans rfl, (uA BK379.out 3).trans rfl, (uA BK379.out 4).trans rfl, (uA BK379.out 5).trans rfl⟩ (fun hHeld => ?_); refine with_tabW spec_FormatOp.tab6 spec_FormatOp.bits6 (fun HT_ HW_ => ?_)
  generalize w40.drew = w42 at BK379 HB hHeld ⊢
  refine uC (i := 0) (N := some 30) (v := ?_) (a' := ?_) tb1 rfl rfl (uK HT_.out (by kernel_rfl)) (fun _ _ _ h => h) (Or.inl ⟨by rfl, ?_⟩) ?_ ?_
  rotate_left
  · intro w'
    go_simp
    with_reducible rfl
  rotate_left
  · simp only [Act.put, uY, uZ, vA, uB, uD]
    rfl
  refine uC (i := 1) (N := some 31) (v := ?_) (a' := ?_) tb2 rfl rfl (uK HT_.out (by kernel_rfl)) (fun _ _ _ h => h) (Or.inl ⟨by rfl, ?_⟩) ?_ ?_
  rotate_left
  · intro w'
    go_simp
    with_reducible rfl
  rotate_left
  · simp only [Act.put, uY, uZ, vA, uB, uD]
    rfl
  refine uC (i := 2) (N := some 32) (v := ?_) (a' := ?_) tb3 rfl rfl (uK HT_.out (by kernel_rfl)) (fun _ _ _ h => h) (Or.inl ⟨by rfl, ?_⟩) ?_ ?_
  rotate_left
  · intro w'
    go_simp
    with_reducible rfl
  rotate_left
  · simp only [Act.put, uY, uZ, vA, uB, uD]
    rfl
  refine uC (i := 7) (N := some 37) (v := ?_) (a' := ?_) tb12 rfl rfl (uK HT_.out (by kernel_rfl)) (fun _ _ _ h => h) (Or.inl ⟨by rfl, ?_⟩) ?_ ?_
  rotate_left
  · intro w'
    go_simp
    with_reducible rfl
  rotate_left
  · simp only [Act.put, uY, uZ, vA, uB, uD]
    rfl
  refine uC (i := 12) (N := some 42) (v := ?_) (a' := ?_) tb14 rfl rfl (uK HT_.out (by kernel_rfl)) (fun _ _ _ h => h) (Or.inl ⟨by rfl, ?_⟩) ?_ ?_
  rotate_left
  · intro w'
    go_simp
    with_reducible rfl
  rotate_left
  · simp only [Act.put, uY, uZ, vA, uB, uD]
    rfl
  refine take_ (i := 3) (N := some 33) (v := ?_) (a' := ?_) tb17 rfl rfl (take_ofW HT_.out HW_.out (by kernel_rfl)) (fun _ _ _ h => h) (Or.inl ⟨by rfl, ?_⟩) hHeld ?_ ?_
  rotate_left
  · rintro w' ⟨s0, s1, s2, s3, s4, s5⟩
    go_simp
    with_reducible rfl
  rotate_left
  · simp only [Act.put, uY, uZ, vA, uB, uD]
    rfl
  refine take_ (i := 8) (N := some 38) (v := ?_) (a' := ?_) tb19 rfl rfl (take_ofW HT_.out HW_.out (by kernel_rfl)) (fun _ _ _ h => h) (Or.inl ⟨by rfl, ?_⟩) hHeld ?_ ?_
  rotate_left
  · rintro w' ⟨s0, s1, s2, s3, s4, s5⟩
    go_simp
    with_reducible rfl
  rotate_left
  · simp only [Act.put, uY, uZ, vA, uB, uD]
    rfl
  refine take_ (i := 13) (N := some 43) (v := ?_) (a' := ?_) tb22 rfl rfl (take_ofW HT_.out HW_.out (by kernel_rfl)) (fun _ _ _ h => h) (Or.inl ⟨by rfl, ?_⟩) hHeld ?_ ?_
  rotate_left
  · rintro w' ⟨s0, s1, s2, s3, s4, s5⟩
    go_simp
    with_reducible rfl
  rotate_left
  · simp only [Act.put, uY, uZ, vA, uB, uD]
    rfl
  refine one_ (i := 4) (N := some 34) tb25 rfl rfl (one_of HT_.out (by kernel_rfl)) (by decide) (fun K hK => ?_)
  refine goes_ Tryd.func90 (by kernel_rfl) rfl #[.int .i64 a0_3] (by rfl) rfl rfl q8 ?_
  with_reducible refine (spec_FormatInt.calls k a0_3 t385 _ A27.out).mono ?_
  rintro e w43 ⟨rfl, hb⟩
  refine ⟨_, rfl, ?_⟩
  replace BK379 := tBlk BK379 hb
  replace HB := uQ HB hb
  (try clear hb)
  (try clear hb2)
  (try clear hk)
  (try clear hi)
  refine hK.out _ _ ⟨(uA BK379.out 0).trans rfl, (uA BK379.out 1).trans rfl, (uA BK379.out 2).trans rfl, (uA BK379.out 3).trans rfl, (uA BK379.out 4).trans rfl, (uA BK379.out 5).trans rfl⟩ (fun hHeld => ?_)
  clear hK K
  refine norm_ (a' := ?_) ?_ ?_
  rotate_left
  · show Act.put _ (some 34) _ = _
    simp only [Act.put, uY, uZ, vA, uB, uD]
    rfl
  refine uC (i := 5) (N := some 35) (v := ?_) (a' := ?_) tb27 rfl rfl (uK HT_.out (by kernel_rfl)) (fun _ _ _ h => h) (Or.inl ⟨by rfl, ?_⟩) ?_ ?_
  rotate_left
  · intro w'
    go_simp
    with_reducible rfl
  rotate_left
  · simp only [Act.put, uY, uZ, vA, uB, uD]
    rfl
  refine uC (i := 6) (N := some 36) (v := ?_) (a' := ?_) tb30 rfl rfl (uK HT_.out (by kernel_rfl)) (fun _ _ _ h => h) (Or.inl ⟨by rfl, ?_⟩) ?_ ?_
  rotate_left
  · intro w'
    go_simp
    with_reducible rfl
  rotate_left
  · simp only [Act.put, uY, uZ, vA, uB, uD]
    rfl
  refine one_ (i := 9) (N := some 39) tb32 rfl rfl (one_of HT_.out (by kernel_rfl)) (by decide) (fun K hK => ?_)
  refine goes_ Tryd.func90 (by kernel_rfl) rfl #[.int .i64 a0_4] (by rfl) rfl rfl q8 ?_
  with_reducible refine (spec_FormatInt.calls k a0_4 t386 _ A30.out).mono ?_
  rintro e w44 ⟨rfl, hb⟩
  refine ⟨_, rfl, ?_⟩
  replace BK379 := tBlk BK379 hb
  replace HB := uQ HB hb
  (try clear hb)
  (try clear hb2)
  (try clear hk)
  (try clear hi)
  refine hK.out _ _ ⟨(uA BK379.out 0).trans rfl, (uA BK379.out 1).trans rfl, (uA BK379.out 2).trans rfl, (uA BK379.out 3).trans rfl, (uA BK379.out 4).trans rfl, (uA BK379.out 5).trans rfl⟩ (fun hHeld => ?_)
  clear hK K
  refine norm_ (a' := ?_) ?_ ?_
  rotate_left
  · show Act.put _ (some 39) _ = _
    simp only [Act.put, uY, uZ, vA, uB, uD]
    rfl
  refine uC (i := 10) (N := some 40) (v := ?_) (a' := ?_) tb34 rfl rfl (uK HT_.out (by kernel_rfl)) (fun _ _ _ h => h) (Or.inl ⟨by rfl, ?_⟩) ?_ ?_
  rotate_left
  · intro w'
    go_simp
    with_reducible rfl
  rotate_left
  · simp only [Act.put, uY, uZ, vA, uB, uD]
    rfl
  refine uC (i := 11) (N := some 41) (v := ?_) (a' := ?_) tb4 rfl rfl (uK HT_.out (by kernel_rfl)) (fun _ _ _ h => h) (Or.inl ⟨by rfl, ?_⟩) ?_ ?_
  rotate_left
  · intro w'
    go_simp
    with_reducible rfl
  rotate_left
  · simp only [Act.put, uY, uZ, vA, uB, uD]
    rfl
  refine one_ (i := 14) (N := some 44) tb5 rfl rfl (one_of HT_.out (by kernel_rfl)) (by decide) (fun K hK => ?_)
  refine goes_ Tryd.func90 (by kernel_rfl) rfl #[.int .i64 a0_5] (by rfl) rfl rfl q8 ?_
  with_reducible refine (spec_FormatInt.calls k a0_5 t387 _ A33.out).mono ?_
  rintro e w45 ⟨rfl, hb⟩
  refine ⟨_, rfl, ?_⟩
  replace BK379 := tBlk BK379 hb
  replace HB := uQ HB hb
  (try clear hb)
  (try clear hb2)
  (try clear hk)
  (try clear hi)
  refine hK.out _ _ ⟨(uA BK379.out 0).trans rfl, (uA BK379.out 1).trans rfl, (uA BK379.out 2).trans rfl, (uA BK379.out 3).trans rfl, (uA BK379.out 4).trans rfl, (uA BK379.out 5).trans rfl⟩ (fun hHeld => ?_)
  clear hK K
  refine norm_ (a' := ?_) ?_ ?_
  rotate_left
  · show Act.put _ (some 44) _ = _
    simp only [Act.put, uY, uZ, vA, uB, uD]
    rfl
  refine uC (i := 15) (N := some 45) (v := ?_) (a' := ?_) tb6 rfl rfl (uK HT_.out (by kernel_rfl)) (fun _ _ _ h => h) (Or.inl ⟨by rfl, ?_⟩) ?_ ?_
  rotate_left
  · intro w'
    go_simp
    with_reducible rfl
  rotate_left
  · simp only [Act.put, uY, uZ, vA, uB, uD]
    rfl
  refine uC (i := 16) (N := some 2) (v := ?_) (a' := ?_) tb7 rfl rfl (uK HT_.out (by kernel_rfl)) (fun _ _ _ h => h) (Or.inl ⟨by rfl, ?_⟩) ?_ ?_
  rotate_left
  · intro w'
    go_simp
    with_reducible rfl
  rotate_left
  · simp only [Act.put, uY, uZ, vA, uB, uD]
    rfl
  refine done_ (done_of HT_.out (by kernel_rfl)) ?_
  try go_wp2
  go_ret
  exact ⟨q2, q3⟩

end Go.Proofs.YtcikahnmiiichaaDoor.G
