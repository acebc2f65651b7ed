/- Go functions as Lean functions, and the proof that the code comes to them: written by a program of this session out of the translation. -/
import Derived.Test.YtijjfnkblfimfaaDoorO0
import Derived.Test.YtijjfnkblfimfaaDoorO6
namespace Go.Proofs.YtijjfnkblfimfaaDoor.O
open Go.Proofs.YtijjfnkblfimfaaDoor.Given
open Go.RowKit Go.Proofs.YtijjfnkblfimfaaDoorW.PrintWords Go.Proofs.YtijjfnkblfimfaaDoorW.PrintLast Go.Proofs.YtijjfnkblfimfaaDoorW.PrintMore
attribute [local go_sem] max2_int min2_int max_two min_two max_three min_three max_four min_four   -- for this text's walks alone
set_option linter.unusedVariables false
set_option linter.unusedSimpArgs false

/-! ### impl_FormatOp: function 60 -/
def impl_FormatOp.f (a0_0 : Int) (a0_1 : Int) (a0_2 : Int) (a0_3 : Int) (a0_4 : Int) (a0_5 : Int) : Option (ByteArray) := (impl_IsValidOp.f a0_0 a0_1 a0_2 a0_3 a0_4 a0_5).bind fun t197 => (if t197 = true then ((impl_FormatInt.f a0_0).bind fun t198 => (if t198.size + 1 ≤ 9223372036854775807 then ((impl_FormatInt.f a0_1).bind fun t199 => (if (t198 ++ (⟨#[46]⟩ : ByteArray)).size + t199.size ≤ 9223372036854775807 then (if a0_2 = 2 then (if ((t198 ++ (⟨#[46]⟩ : ByteArray)) ++ t199).size + 6 ≤ 9223372036854775807 then ((impl_FormatInt.f a0_3).bind fun t200 => (if (((t198 ++ (⟨#[46]⟩ : ByteArray)) ++ t199) ++ (⟨#[32, 115, 119, 97, 112, 32]⟩ : ByteArray)).size + t200.size ≤ 9223372036854775807 then (if ((((t198 ++ (⟨#[46]⟩ : ByteArray)) ++ t199) ++ (⟨#[32, 115, 119, 97, 112, 32]⟩ : ByteArray)) ++ t200).size + 1 ≤ 9223372036854775807 then ((impl_FormatInt.f a0_4).bind fun t201 => (if (((((t198 ++ (⟨#[46]⟩ : ByteArray)) ++ t199) ++ (⟨#[32, 115, 119, 97, 112, 32]⟩ : ByteArray)) ++ t200) ++ (⟨#[32]⟩ : ByteArray)).size + t201.size ≤ 9223372036854775807 then (if ((((((t198 ++ (⟨#[46]⟩ : ByteArray)) ++ t199) ++ (⟨#[32, 115, 119, 97, 112, 32]⟩ : ByteArray)) ++ t200) ++ (⟨#[32]⟩ : ByteArray)) ++ t201).size + 1 ≤ 9223372036854775807 then ((impl_FormatInt.f a0_5).bind fun t202 => (if (((((((t198 ++ (⟨#[46]⟩ : ByteArray)) ++ t199) ++ (⟨#[32, 115, 119, 97, 112, 32]⟩ : ByteArray)) ++ t200) ++ (⟨#[32]⟩ : ByteArray)) ++ t201) ++ (⟨#[32]⟩ : ByteArray)).size + t202.size ≤ 9223372036854775807 then (some ((((((((t198 ++ (⟨#[46]⟩ : ByteArray)) ++ t199) ++ (⟨#[32, 115, 119, 97, 112, 32]⟩ : ByteArray)) ++ t200) ++ (⟨#[32]⟩ : ByteArray)) ++ t201) ++ (⟨#[32]⟩ : ByteArray)) ++ t202)) else (none))) else (none)) else (none))) else (none)) else (none))) else (none)) else (if ((t198 ++ (⟨#[46]⟩ : ByteArray)) ++ t199).size + 7 ≤ 9223372036854775807 then ((impl_FormatInt.f a0_3).bind fun t203 => (if (((t198 ++ (⟨#[46]⟩ : ByteArray)) ++ t199) ++ (⟨#[32, 119, 114, 105, 116, 101, 32]⟩ : ByteArray)).size + t203.size ≤ 9223372036854775807 then (if ((((t198 ++ (⟨#[46]⟩ : ByteArray)) ++ t199) ++ (⟨#[32, 119, 114, 105, 116, 101, 32]⟩ : ByteArray)) ++ t203).size + 1 ≤ 9223372036854775807 then ((impl_FormatInt.f a0_5).bind fun t204 => (if (((((t198 ++ (⟨#[46]⟩ : ByteArray)) ++ t199) ++ (⟨#[32, 119, 114, 105, 116, 101, 32]⟩ : ByteArray)) ++ t203) ++ (⟨#[32]⟩ : ByteArray)).size + t204.size ≤ 9223372036854775807 then (some ((((((t198 ++ (⟨#[46]⟩ : ByteArray)) ++ t199) ++ (⟨#[32, 119, 114, 105, 116, 101, 32]⟩ : ByteArray)) ++ t203) ++ (⟨#[32]⟩ : ByteArray)) ++ t204)) else (none))) else (none)) else (none))) else (none))) else (none))) else (none))) else (some (⟨#[]⟩ : ByteArray)))
def impl_FormatOp.T3 : Bool × List (List Nat × List Nat) := (true, [([], []), ([0], [0]), ([1], [1]), ([2], [2]), ([], []), ([4], [4]), ([5, 2], [5]), ([3, 6], [3, 6]), ([7, 6, 0, 1, 2, 3, 4, 5, 6, 7], [7])])
def impl_FormatOp.B3 : List Nat := [0, 1, 3, 7, 0, 16, 55, 127, 255]
theorem impl_FormatOp.tab3 : rtab .any (opsOf Tryd.f60 3) = impl_FormatOp.T3 := by kernel_rfl
theorem impl_FormatOp.bits3 : waitsOk impl_FormatOp.T3.2 impl_FormatOp.B3 = true := by kernel_rfl
def impl_FormatOp.T5 : Bool × List (List Nat × List Nat) := (true, [([], []), ([0], [0]), ([], []), ([2], [2]), ([3], [3]), ([1, 4], [1, 4]), ([5], [5]), ([], []), ([7], [7]), ([8, 4], [8]), ([6, 9], [6, 9]), ([10], [10]), ([], []), ([12], [12]), ([13, 9], [13]), ([11, 14], [11, 14]), ([15, 14, 0, 1, 2, 3, 4, 5, 6, 7, 8, 9, 10, 11, 12, 13, 14, 15], [15])])
def impl_FormatOp.B5 : List Nat := [0, 1, 0, 4, 12, 31, 63, 0, 128, 412, 1023, 2047, 0, 4096, 13212, 32767, 65535]
theorem impl_FormatOp.tab5 : rtab .any (opsOf Tryd.f60 5) = impl_FormatOp.T5 := by kernel_rfl
theorem impl_FormatOp.bits5 : waitsOk impl_FormatOp.T5.2 impl_FormatOp.B5 = true := by kernel_rfl
def impl_FormatOp.T6 : Bool × List (List Nat × List Nat) := (true, [([], []), ([0], [0]), ([], []), ([2], [2]), ([3], [3]), ([1, 4], [1, 4]), ([5], [5]), ([], []), ([7], [7]), ([8, 4], [8]), ([6, 9], [6, 9]), ([10, 9, 0, 1, 2, 3, 4, 5, 6, 7, 8, 9, 10], [10])])
def impl_FormatOp.B6 : List Nat := [0, 1, 0, 4, 12, 31, 63, 0, 128, 412, 1023, 2047]
theorem impl_FormatOp.tab6 : rtab .any (opsOf Tryd.f60 6) = impl_FormatOp.T6 := by kernel_rfl
theorem impl_FormatOp.bits6 : waitsOk impl_FormatOp.T6.2 impl_FormatOp.B6 = true := by kernel_rfl
set_option maxHeartbeats 8000000 in
set_option maxRecDepth 100000 in
theorem impl_FormatOp.calls (a0_0 : Int) (a0_1 : Int) (a0_2 : Int) (a0_3 : Int) (a0_4 : Int) (a0_5 : Int) (r : ByteArray) (w : World) (hWF : WF w) (h : impl_FormatOp.f a0_0 a0_1 a0_2 a0_3 a0_4 a0_5 = some r) :
    Calls Tryd.prog 60 #[.agg #[.int .i64 a0_0, .int .i64 a0_1, .int .i64 a0_2, .int .i64 a0_3, .int .i64 a0_4, .int .i64 a0_5]] w fun e w' => e = .returned (.string r) ∧ Below w.heap.size w w' := by
  have hu42 := Tryd.underlying42
  have HB := Aside0.mk (Below.refl w.heap.size w)
  have H : ((impl_IsValidOp.f a0_0 a0_1 a0_2 a0_3 a0_4 a0_5).bind fun t197 => (if t197 = true then ((impl_FormatInt.f a0_0).bind fun t198 => (if t198.size + 1 ≤ 9223372036854775807 then ((impl_FormatInt.f a0_1).bind fun t199 => (if (t198 ++ (⟨#[46]⟩ : ByteArray)).size + t199.size ≤ 9223372036854775807 then (if a0_2 = 2 then (if ((t198 ++ (⟨#[46]⟩ : ByteArray)) ++ t199).size + 6 ≤ 9223372036854775807 then ((impl_FormatInt.f a0_3).bind fun t200 => (if (((t198 ++ (⟨#[46]⟩ : ByteArray)) ++ t199) ++ (⟨#[32, 115, 119, 97, 112, 32]⟩ : ByteArray)).size + t200.size ≤ 9223372036854775807 then (if ((((t198 ++ (⟨#[46]⟩ : ByteArray)) ++ t199) ++ (⟨#[32, 115, 119, 97, 112, 32]⟩ : ByteArray)) ++ t200).size + 1 ≤ 9223372036854775807 then ((impl_FormatInt.f a0_4).bind fun t201 => (if (((((t198 ++ (⟨#[46]⟩ : ByteArray)) ++ t199) ++ (⟨#[32, 115, 119, 97, 112, 32]⟩ : ByteArray)) ++ t200) ++ (⟨#[32]⟩ : ByteArray)).size + t201.size ≤ 9223372036854775807 then (if ((((((t198 ++ (⟨#[46]⟩ : ByteArray)) ++ t199) ++ (⟨#[32, 115, 119, 97, 112, 32]⟩ : ByteArray)) ++ t200) ++ (⟨#[32]⟩ : ByteArray)) ++ t201).size + 1 ≤ 9223372036854775807 then ((impl_FormatInt.f a0_5).bind fun t202 => (if (((((((t198 ++ (⟨#[46]⟩ : ByteArray)) ++ t199) ++ (⟨#[32, 115, 119, 97, 112, 32]⟩ : ByteArray)) ++ t200) ++ (⟨#[32]⟩ : ByteArray)) ++ t201) ++ (⟨#[32]⟩ : ByteArray)).size + t202.size ≤ 9223372036854775807 then (some ((((((((t198 ++ (⟨#[46]⟩ : ByteArray)) ++ t199) ++ (⟨#[32, 115, 119, 97, 112, 32]⟩ : ByteArray)) ++ t200) ++ (⟨#[32]⟩ : ByteArray)) ++ t201) ++ (⟨#[32]⟩ : ByteArray)) ++ t202)) else (none))) else (none)) else (none))) else (none)) else (none))) else (none)) else (if ((t198 ++ (⟨#[46]⟩ : ByteArray)) ++ t199).size + 7 ≤ 9223372036854775807 then ((impl_FormatInt.f a0_3).bind fun t203 => (if (((t198 ++ (⟨#[46]⟩ : ByteArray)) ++ t199) ++ (⟨#[32, 119, 114, 105, 116, 101, 32]⟩ : ByteArray)).size + t203.size ≤ 9223372036854775807 then (if ((((t198 ++ (⟨#[46]⟩ : ByteArray)) ++ t199) ++ (⟨#[32, 119, 114, 105, 116, 101, 32]⟩ : ByteArray)) ++ t203).size + 1 ≤ 9223372036854775807 then ((impl_FormatInt.f a0_5).bind fun t204 => (if (((((t198 ++ (⟨#[46]⟩ : ByteArray)) ++ t199) ++ (⟨#[32, 119, 114, 105, 116, 101, 32]⟩ : ByteArray)) ++ t203) ++ (⟨#[32]⟩ : ByteArray)).size + t204.size ≤ 9223372036854775807 then (some ((((((t198 ++ (⟨#[46]⟩ : ByteArray)) ++ t199) ++ (⟨#[32, 119, 114, 105, 116, 101, 32]⟩ : ByteArray)) ++ t203) ++ (⟨#[32]⟩ : ByteArray)) ++ t204)) else (none))) else (none)) else (none))) else (none))) else (none))) else (none))) else (some (⟨#[]⟩ : ByteArray)))) = some r := h
  clear h
  replace H := Option.bind_eq_some_iff.mp H
  obtain ⟨t197, A20, H⟩ := H
  replace H : (if t197 = true then ((impl_FormatInt.f a0_0).bind fun t198 => (if t198.size + 1 ≤ 9223372036854775807 then ((impl_FormatInt.f a0_1).bind fun t199 => (if (t198 ++ (⟨#[46]⟩ : ByteArray)).size + t199.size ≤ 9223372036854775807 then (if a0_2 = 2 then (if ((t198 ++ (⟨#[46]⟩ : ByteArray)) ++ t199).size + 6 ≤ 9223372036854775807 then ((impl_FormatInt.f a0_3).bind fun t200 => (if (((t198 ++ (⟨#[46]⟩ : ByteArray)) ++ t199) ++ (⟨#[32, 115, 119, 97, 112, 32]⟩ : ByteArray)).size + t200.size ≤ 9223372036854775807 then (if ((((t198 ++ (⟨#[46]⟩ : ByteArray)) ++ t199) ++ (⟨#[32, 115, 119, 97, 112, 32]⟩ : ByteArray)) ++ t200).size + 1 ≤ 9223372036854775807 then ((impl_FormatInt.f a0_4).bind fun t201 => (if (((((t198 ++ (⟨#[46]⟩ : ByteArray)) ++ t199) ++ (⟨#[32, 115, 119, 97, 112, 32]⟩ : ByteArray)) ++ t200) ++ (⟨#[32]⟩ : ByteArray)).size + t201.size ≤ 9223372036854775807 then (if ((((((t198 ++ (⟨#[46]⟩ : ByteArray)) ++ t199) ++ (⟨#[32, 115, 119, 97, 112, 32]⟩ : ByteArray)) ++ t200) ++ (⟨#[32]⟩ : ByteArray)) ++ t201).size + 1 ≤ 9223372036854775807 then ((impl_FormatInt.f a0_5).bind fun t202 => (if (((((((t198 ++ (⟨#[46]⟩ : ByteArray)) ++ t199) ++ (⟨#[32, 115, 119, 97, 112, 32]⟩ : ByteArray)) ++ t200) ++ (⟨#[32]⟩ : ByteArray)) ++ t201) ++ (⟨#[32]⟩ : ByteArray)).size + t202.size ≤ 9223372036854775807 then (some ((((((((t198 ++ (⟨#[46]⟩ : ByteArray)) ++ t199) ++ (⟨#[32, 115, 119, 97, 112, 32]⟩ : ByteArray)) ++ t200) ++ (⟨#[32]⟩ : ByteArray)) ++ t201) ++ (⟨#[32]⟩ : ByteArray)) ++ t202)) else (none))) else (none)) else (none))) else (none)) else (none))) else (none)) else (if ((t198 ++ (⟨#[46]⟩ : ByteArray)) ++ t199).size + 7 ≤ 9223372036854775807 then ((impl_FormatInt.f a0_3).bind fun t203 => (if (((t198 ++ (⟨#[46]⟩ : ByteArray)) ++ t199) ++ (⟨#[32, 119, 114, 105, 116, 101, 32]⟩ : ByteArray)).size + t203.size ≤ 9223372036854775807 then (if ((((t198 ++ (⟨#[46]⟩ : ByteArray)) ++ t199) ++ (⟨#[32, 119, 114, 105, 116, 101, 32]⟩ : ByteArray)) ++ t203).size + 1 ≤ 9223372036854775807 then ((impl_FormatInt.f a0_5).bind fun t204 => (if (((((t198 ++ (⟨#[46]⟩ : ByteArray)) ++ t199) ++ (⟨#[32, 119, 114, 105, 116, 101, 32]⟩ : ByteArray)) ++ t203) ++ (⟨#[32]⟩ : ByteArray)).size + t204.size ≤ 9223372036854775807 then (some ((((((t198 ++ (⟨#[46]⟩ : ByteArray)) ++ t199) ++ (⟨#[32, 119, 114, 105, 116, 101, 32]⟩ : ByteArray)) ++ t203) ++ (⟨#[32]⟩ : ByteArray)) ++ t204)) else (none))) else (none)) else (none))) else (none))) else (none))) else (none))) else (some (⟨#[]⟩ : ByteArray))) = some r := H
  have A2 := Aside0.mk A20
  clear A20
  by_cases c3 : t197 = true
  · subst c3
    have H1 : ((impl_FormatInt.f a0_0).bind fun t198 => (if t198.size + 1 ≤ 9223372036854775807 then ((impl_FormatInt.f a0_1).bind fun t199 => (if (t198 ++ (⟨#[46]⟩ : ByteArray)).size + t199.size ≤ 9223372036854775807 then (if a0_2 = 2 then (if ((t198 ++ (⟨#[46]⟩ : ByteArray)) ++ t199).size + 6 ≤ 9223372036854775807 then ((impl_FormatInt.f a0_3).bind fun t200 => (if (((t198 ++ (⟨#[46]⟩ : ByteArray)) ++ t199) ++ (⟨#[32, 115, 119, 97, 112, 32]⟩ : ByteArray)).size + t200.size ≤ 9223372036854775807 then (if ((((t198 ++ (⟨#[46]⟩ : ByteArray)) ++ t199) ++ (⟨#[32, 115, 119, 97, 112, 32]⟩ : ByteArray)) ++ t200).size + 1 ≤ 9223372036854775807 then ((impl_FormatInt.f a0_4).bind fun t201 => (if (((((t198 ++ (⟨#[46]⟩ : ByteArray)) ++ t199) ++ (⟨#[32, 115, 119, 97, 112, 32]⟩ : ByteArray)) ++ t200) ++ (⟨#[32]⟩ : ByteArray)).size + t201.size ≤ 9223372036854775807 then (if ((((((t198 ++ (⟨#[46]⟩ : ByteArray)) ++ t199) ++ (⟨#[32, 115, 119, 97, 112, 32]⟩ : ByteArray)) ++ t200) ++ (⟨#[32]⟩ : ByteArray)) ++ t201).size + 1 ≤ 9223372036854775807 then ((impl_FormatInt.f a0_5).bind fun t202 => (if (((((((t198 ++ (⟨#[46]⟩ : ByteArray)) ++ t199) ++ (⟨#[32, 115, 119, 97, 112, 32]⟩ : ByteArray)) ++ t200) ++ (⟨#[32]⟩ : ByteArray)) ++ t201) ++ (⟨#[32]⟩ : ByteArray)).size + t202.size ≤ 9223372036854775807 then (some ((((((((t198 ++ (⟨#[46]⟩ : ByteArray)) ++ t199) ++ (⟨#[32, 115, 119, 97, 112, 32]⟩ : ByteArray)) ++ t200) ++ (⟨#[32]⟩ : ByteArray)) ++ t201) ++ (⟨#[32]⟩ : ByteArray)) ++ t202)) else (none))) else (none)) else (none))) else (none)) else (none))) else (none)) else (if ((t198 ++ (⟨#[46]⟩ : ByteArray)) ++ t199).size + 7 ≤ 9223372036854775807 then ((impl_FormatInt.f a0_3).bind fun t203 => (if (((t198 ++ (⟨#[46]⟩ : ByteArray)) ++ t199) ++ (⟨#[32, 119, 114, 105, 116, 101, 32]⟩ : ByteArray)).size + t203.size ≤ 9223372036854775807 then (if ((((t198 ++ (⟨#[46]⟩ : ByteArray)) ++ t199) ++ (⟨#[32, 119, 114, 105, 116, 101, 32]⟩ : ByteArray)) ++ t203).size + 1 ≤ 9223372036854775807 then ((impl_FormatInt.f a0_5).bind fun t204 => (if (((((t198 ++ (⟨#[46]⟩ : ByteArray)) ++ t199) ++ (⟨#[32, 119, 114, 105, 116, 101, 32]⟩ : ByteArray)) ++ t203) ++ (⟨#[32]⟩ : ByteArray)).size + t204.size ≤ 9223372036854775807 then (some ((((((t198 ++ (⟨#[46]⟩ : ByteArray)) ++ t199) ++ (⟨#[32, 119, 114, 105, 116, 101, 32]⟩ : ByteArray)) ++ t203) ++ (⟨#[32]⟩ : ByteArray)) ++ t204)) else (none))) else (none)) else (none))) else (none))) else (none))) else (none))) = some r := by first | (rw [if_pos rfl] at H; exact H) | rfl
    clear H
    have H := H1
    clear H1
    replace H := Option.bind_eq_some_iff.mp H
    obtain ⟨t198, A40, H⟩ := H
    replace H : (if t198.size + 1 ≤ 9223372036854775807 then ((impl_FormatInt.f a0_1).bind fun t199 => (if (t198 ++ (⟨#[46]⟩ : ByteArray)).size + t199.size ≤ 9223372036854775807 then (if a0_2 = 2 then (if ((t198 ++ (⟨#[46]⟩ : ByteArray)) ++ t199).size + 6 ≤ 9223372036854775807 then ((impl_FormatInt.f a0_3).bind fun t200 => (if (((t198 ++ (⟨#[46]⟩ : ByteArray)) ++ t199) ++ (⟨#[32, 115, 119, 97, 112, 32]⟩ : ByteArray)).size + t200.size ≤ 9223372036854775807 then (if ((((t198 ++ (⟨#[46]⟩ : ByteArray)) ++ t199) ++ (⟨#[32, 115, 119, 97, 112, 32]⟩ : ByteArray)) ++ t200).size + 1 ≤ 9223372036854775807 then ((impl_FormatInt.f a0_4).bind fun t201 => (if (((((t198 ++ (⟨#[46]⟩ : ByteArray)) ++ t199) ++ (⟨#[32, 115, 119, 97, 112, 32]⟩ : ByteArray)) ++ t200) ++ (⟨#[32]⟩ : ByteArray)).size + t201.size ≤ 9223372036854775807 then (if ((((((t198 ++ (⟨#[46]⟩ : ByteArray)) ++ t199) ++ (⟨#[32, 115, 119, 97, 112, 32]⟩ : ByteArray)) ++ t200) ++ (⟨#[32]⟩ : ByteArray)) ++ t201).size + 1 ≤ 9223372036854775807 then ((impl_FormatInt.f a0_5).bind fun t202 => (if (((((((t198 ++ (⟨#[46]⟩ : ByteArray)) ++ t199) ++ (⟨#[32, 115, 119, 97, 112, 32]⟩ : ByteArray)) ++ t200) ++ (⟨#[32]⟩ : ByteArray)) ++ t201) ++ (⟨#[32]⟩ : ByteArray)).size + t202.size ≤ 9223372036854775807 then (some ((((((((t198 ++ (⟨#[46]⟩ : ByteArray)) ++ t199) ++ (⟨#[32, 115, 119, 97, 112, 32]⟩ : ByteArray)) ++ t200) ++ (⟨#[32]⟩ : ByteArray)) ++ t201) ++ (⟨#[32]⟩ : ByteArray)) ++ t202)) else (none))) else (none)) else (none))) else (none)) else (none))) else (none)) else (if ((t198 ++ (⟨#[46]⟩ : ByteArray)) ++ t199).size + 7 ≤ 9223372036854775807 then ((impl_FormatInt.f a0_3).bind fun t203 => (if (((t198 ++ (⟨#[46]⟩ : ByteArray)) ++ t199) ++ (⟨#[32, 119, 114, 105, 116, 101, 32]⟩ : ByteArray)).size + t203.size ≤ 9223372036854775807 then (if ((((t198 ++ (⟨#[46]⟩ : ByteArray)) ++ t199) ++ (⟨#[32, 119, 114, 105, 116, 101, 32]⟩ : ByteArray)) ++ t203).size + 1 ≤ 9223372036854775807 then ((impl_FormatInt.f a0_5).bind fun t204 => (if (((((t198 ++ (⟨#[46]⟩ : ByteArray)) ++ t199) ++ (⟨#[32, 119, 114, 105, 116, 101, 32]⟩ : ByteArray)) ++ t203) ++ (⟨#[32]⟩ : ByteArray)).size + t204.size ≤ 9223372036854775807 then (some ((((((t198 ++ (⟨#[46]⟩ : ByteArray)) ++ t199) ++ (⟨#[32, 119, 114, 105, 116, 101, 32]⟩ : ByteArray)) ++ t203) ++ (⟨#[32]⟩ : ByteArray)) ++ t204)) else (none))) else (none)) else (none))) else (none))) else (none))) else (none)) = some r := H
    have A4 := Aside0.mk A40
    clear A40
    by_cases c5 : t198.size + 1 ≤ 9223372036854775807
    · rw [if_pos c5] at H
      have c5b0 := eq_true c5
      have c5b1 : decide (t198.size + 1 ≤ 9223372036854775807) = true := decide_eq_true c5
      try have c5b2 : (9223372036854775807 < t198.size + 1) = False := eq_false (Nat.not_lt.2 c5)
      replace H := Option.bind_eq_some_iff.mp H
      obtain ⟨t199, A60, H⟩ := H
      replace H : (if (t198 ++ (⟨#[46]⟩ : ByteArray)).size + t199.size ≤ 9223372036854775807 then (if a0_2 = 2 then (if ((t198 ++ (⟨#[46]⟩ : ByteArray)) ++ t199).size + 6 ≤ 9223372036854775807 then ((impl_FormatInt.f a0_3).bind fun t200 => (if (((t198 ++ (⟨#[46]⟩ : ByteArray)) ++ t199) ++ (⟨#[32, 115, 119, 97, 112, 32]⟩ : ByteArray)).size + t200.size ≤ 9223372036854775807 then (if ((((t198 ++ (⟨#[46]⟩ : ByteArray)) ++ t199) ++ (⟨#[32, 115, 119, 97, 112, 32]⟩ : ByteArray)) ++ t200).size + 1 ≤ 9223372036854775807 then ((impl_FormatInt.f a0_4).bind fun t201 => (if (((((t198 ++ (⟨#[46]⟩ : ByteArray)) ++ t199) ++ (⟨#[32, 115, 119, 97, 112, 32]⟩ : ByteArray)) ++ t200) ++ (⟨#[32]⟩ : ByteArray)).size + t201.size ≤ 9223372036854775807 then (if ((((((t198 ++ (⟨#[46]⟩ : ByteArray)) ++ t199) ++ (⟨#[32, 115, 119, 97, 112, 32]⟩ : ByteArray)) ++ t200) ++ (⟨#[32]⟩ : ByteArray)) ++ t201).size + 1 ≤ 9223372036854775807 then ((impl_FormatInt.f a0_5).bind fun t202 => (if (((((((t198 ++ (⟨#[46]⟩ : ByteArray)) ++ t199) ++ (⟨#[32, 115, 119, 97, 112, 32]⟩ : ByteArray)) ++ t200) ++ (⟨#[32]⟩ : ByteArray)) ++ t201) ++ (⟨#[32]⟩ : ByteArray)).size + t202.size ≤ 9223372036854775807 then (some ((((((((t198 ++ (⟨#[46]⟩ : ByteArray)) ++ t199) ++ (⟨#[32, 115, 119, 97, 112, 32]⟩ : ByteArray)) ++ t200) ++ (⟨#[32]⟩ : ByteArray)) ++ t201) ++ (⟨#[32]⟩ : ByteArray)) ++ t202)) else (none))) else (none)) else (none))) else (none)) else (none))) else (none)) else (if ((t198 ++ (⟨#[46]⟩ : ByteArray)) ++ t199).size + 7 ≤ 9223372036854775807 then ((impl_FormatInt.f a0_3).bind fun t203 => (if (((t198 ++ (⟨#[46]⟩ : ByteArray)) ++ t199) ++ (⟨#[32, 119, 114, 105, 116, 101, 32]⟩ : ByteArray)).size + t203.size ≤ 9223372036854775807 then (if ((((t198 ++ (⟨#[46]⟩ : ByteArray)) ++ t199) ++ (⟨#[32, 119, 114, 105, 116, 101, 32]⟩ : ByteArray)) ++ t203).size + 1 ≤ 9223372036854775807 then ((impl_FormatInt.f a0_5).bind fun t204 => (if (((((t198 ++ (⟨#[46]⟩ : ByteArray)) ++ t199) ++ (⟨#[32, 119, 114, 105, 116, 101, 32]⟩ : ByteArray)) ++ t203) ++ (⟨#[32]⟩ : ByteArray)).size + t204.size ≤ 9223372036854775807 then (some ((((((t198 ++ (⟨#[46]⟩ : ByteArray)) ++ t199) ++ (⟨#[32, 119, 114, 105, 116, 101, 32]⟩ : ByteArray)) ++ t203) ++ (⟨#[32]⟩ : ByteArray)) ++ t204)) else (none))) else (none)) else (none))) else (none))) else (none)) = some r := H
      have A6 := Aside0.mk A60
      clear A60
      by_cases c7 : (t198 ++ (⟨#[46]⟩ : ByteArray)).size + t199.size ≤ 9223372036854775807
      · rw [if_pos c7] at H
        have c7b0 := eq_true c7
        have c7b1 : decide ((t198 ++ (⟨#[46]⟩ : ByteArray)).size + t199.size ≤ 9223372036854775807) = true := decide_eq_true c7
        try have c7b2 : (9223372036854775807 < (t198 ++ (⟨#[46]⟩ : ByteArray)).size + t199.size) = False := eq_false (Nat.not_lt.2 c7)
        have c7b3 : (9223372036854775807 < t198.size + 1 + t199.size) = False := eq_false (Nat.not_lt.2 (by have z_ := c7; (repeat rw [ByteArray.size_append] at z_); exact z_))
        by_cases c8 : a0_2 = 2
        · rw [if_pos c8] at H
          have c8b0 : (a0_2 == 2) = true := beq_iff_eq.mpr c8
          have c8b1 : (a0_2 != 2) = false := bne_eq_false_iff_eq.mpr c8
          clear c8
          by_cases c9 : ((t198 ++ (⟨#[46]⟩ : ByteArray)) ++ t199).size + 6 ≤ 9223372036854775807
          · rw [if_pos c9] at H
            have c9b0 := eq_true c9
            have c9b1 : decide (((t198 ++ (⟨#[46]⟩ : ByteArray)) ++ t199).size + 6 ≤ 9223372036854775807) = true := decide_eq_true c9
            try have c9b2 : (9223372036854775807 < ((t198 ++ (⟨#[46]⟩ : ByteArray)) ++ t199).size + 6) = False := eq_false (Nat.not_lt.2 c9)
            have c9b3 : (9223372036854775807 < t198.size + 1 + t199.size + 6) = False := eq_false (Nat.not_lt.2 (by have z_ := c9; (repeat rw [ByteArray.size_append] at z_); exact z_))
            replace H := Option.bind_eq_some_iff.mp H
            obtain ⟨t200, A100, H⟩ := H
            replace H : (if (((t198 ++ (⟨#[46]⟩ : ByteArray)) ++ t199) ++ (⟨#[32, 115, 119, 97, 112, 32]⟩ : ByteArray)).size + t200.size ≤ 9223372036854775807 then (if ((((t198 ++ (⟨#[46]⟩ : ByteArray)) ++ t199) ++ (⟨#[32, 115, 119, 97, 112, 32]⟩ : ByteArray)) ++ t200).size + 1 ≤ 9223372036854775807 then ((impl_FormatInt.f a0_4).bind fun t201 => (if (((((t198 ++ (⟨#[46]⟩ : ByteArray)) ++ t199) ++ (⟨#[32, 115, 119, 97, 112, 32]⟩ : ByteArray)) ++ t200) ++ (⟨#[32]⟩ : ByteArray)).size + t201.size ≤ 9223372036854775807 then (if ((((((t198 ++ (⟨#[46]⟩ : ByteArray)) ++ t199) ++ (⟨#[32, 115, 119, 97, 112, 32]⟩ : ByteArray)) ++ t200) ++ (⟨#[32]⟩ : ByteArray)) ++ t201).size + 1 ≤ 9223372036854775807 then ((impl_FormatInt.f a0_5).bind fun t202 => (if (((((((t198 ++ (⟨#[46]⟩ : ByteArray)) ++ t199) ++ (⟨#[32, 115, 119, 97, 112, 32]⟩ : ByteArray)) ++ t200) ++ (⟨#[32]⟩ : ByteArray)) ++ t201) ++ (⟨#[32]⟩ : ByteArray)).size + t202.size ≤ 9223372036854775807 then (some ((((((((t198 ++ (⟨#[46]⟩ : ByteArray)) ++ t199) ++ (⟨#[32, 115, 119, 97, 112, 32]⟩ : ByteArray)) ++ t200) ++ (⟨#[32]⟩ : ByteArray)) ++ t201) ++ (⟨#[32]⟩ : ByteArray)) ++ t202)) else (none))) else (none)) else (none))) else (none)) else (none)) = some r := H
            have A10 := Aside0.mk A100
            clear A100
            by_cases c11 : (((t198 ++ (⟨#[46]⟩ : ByteArray)) ++ t199) ++ (⟨#[32, 115, 119, 97, 112, 32]⟩ : ByteArray)).size + t200.size ≤ 9223372036854775807
            · rw [if_pos c11] at H
              have c11b0 := eq_true c11
              have c11b1 : decide ((((t198 ++ (⟨#[46]⟩ : ByteArray)) ++ t199) ++ (⟨#[32, 115, 119, 97, 112, 32]⟩ : ByteArray)).size + t200.size ≤ 9223372036854775807) = true := decide_eq_true c11
              try have c11b2 : (9223372036854775807 < (((t198 ++ (⟨#[46]⟩ : ByteArray)) ++ t199) ++ (⟨#[32, 115, 119, 97, 112, 32]⟩ : ByteArray)).size + t200.size) = False := eq_false (Nat.not_lt.2 c11)
              have c11b3 : (9223372036854775807 < t198.size + 1 + t199.size + 6 + t200.size) = False := eq_false (Nat.not_lt.2 (by have z_ := c11; (repeat rw [ByteArray.size_append] at z_); exact z_))
              by_cases c12 : ((((t198 ++ (⟨#[46]⟩ : ByteArray)) ++ t199) ++ (⟨#[32, 115, 119, 97, 112, 32]⟩ : ByteArray)) ++ t200).size + 1 ≤ 9223372036854775807
              · rw [if_pos c12] at H
                have c12b0 := eq_true c12
                have c12b1 : decide (((((t198 ++ (⟨#[46]⟩ : ByteArray)) ++ t199) ++ (⟨#[32, 115, 119, 97, 112, 32]⟩ : ByteArray)) ++ t200).size + 1 ≤ 9223372036854775807) = true := decide_eq_true c12
                try have c12b2 : (9223372036854775807 < ((((t198 ++ (⟨#[46]⟩ : ByteArray)) ++ t199) ++ (⟨#[32, 115, 119, 97, 112, 32]⟩ : ByteArray)) ++ t200).size + 1) = False := eq_false (Nat.not_lt.2 c12)
                have c12b3 : (9223372036854775807 < t198.size + 1 + t199.size + 6 + t200.size + 1) = False := eq_false (Nat.not_lt.2 (by have z_ := c12; (repeat rw [ByteArray.size_append] at z_); exact z_))
                replace H := Option.bind_eq_some_iff.mp H
                obtain ⟨t201, A130, H⟩ := H
                replace H : (if (((((t198 ++ (⟨#[46]⟩ : ByteArray)) ++ t199) ++ (⟨#[32, 115, 119, 97, 112, 32]⟩ : ByteArray)) ++ t200) ++ (⟨#[32]⟩ : ByteArray)).size + t201.size ≤ 9223372036854775807 then (if ((((((t198 ++ (⟨#[46]⟩ : ByteArray)) ++ t199) ++ (⟨#[32, 115, 119, 97, 112, 32]⟩ : ByteArray)) ++ t200) ++ (⟨#[32]⟩ : ByteArray)) ++ t201).size + 1 ≤ 9223372036854775807 then ((impl_FormatInt.f a0_5).bind fun t202 => (if (((((((t198 ++ (⟨#[46]⟩ : ByteArray)) ++ t199) ++ (⟨#[32, 115, 119, 97, 112, 32]⟩ : ByteArray)) ++ t200) ++ (⟨#[32]⟩ : ByteArray)) ++ t201) ++ (⟨#[32]⟩ : ByteArray)).size + t202.size ≤ 9223372036854775807 then (some ((((((((t198 ++ (⟨#[46]⟩ : ByteArray)) ++ t199) ++ (⟨#[32, 115, 119, 97, 112, 32]⟩ : ByteArray)) ++ t200) ++ (⟨#[32]⟩ : ByteArray)) ++ t201) ++ (⟨#[32]⟩ : ByteArray)) ++ t202)) else (none))) else (none)) else (none)) = some r := H
                have A13 := Aside0.mk A130
                clear A130
                by_cases c14 : (((((t198 ++ (⟨#[46]⟩ : ByteArray)) ++ t199) ++ (⟨#[32, 115, 119, 97, 112, 32]⟩ : ByteArray)) ++ t200) ++ (⟨#[32]⟩ : ByteArray)).size + t201.size ≤ 9223372036854775807
                · rw [if_pos c14] at H
                  have c14b0 := eq_true c14
                  have c14b1 : decide ((((((t198 ++ (⟨#[46]⟩ : ByteArray)) ++ t199) ++ (⟨#[32, 115, 119, 97, 112, 32]⟩ : ByteArray)) ++ t200) ++ (⟨#[32]⟩ : ByteArray)).size + t201.size ≤ 9223372036854775807) = true := decide_eq_true c14
                  try have c14b2 : (9223372036854775807 < (((((t198 ++ (⟨#[46]⟩ : ByteArray)) ++ t199) ++ (⟨#[32, 115, 119, 97, 112, 32]⟩ : ByteArray)) ++ t200) ++ (⟨#[32]⟩ : ByteArray)).size + t201.size) = False := eq_false (Nat.not_lt.2 c14)
                  have c14b3 : (9223372036854775807 < t198.size + 1 + t199.size + 6 + t200.size + 1 + t201.size) = False := eq_false (Nat.not_lt.2 (by have z_ := c14; (repeat rw [ByteArray.size_append] at z_); exact z_))
                  by_cases c15 : ((((((t198 ++ (⟨#[46]⟩ : ByteArray)) ++ t199) ++ (⟨#[32, 115, 119, 97, 112, 32]⟩ : ByteArray)) ++ t200) ++ (⟨#[32]⟩ : ByteArray)) ++ t201).size + 1 ≤ 9223372036854775807
                  · rw [if_pos c15] at H
                    have c15b0 := eq_true c15
                    have c15b1 : decide (((((((t198 ++ (⟨#[46]⟩ : ByteArray)) ++ t199) ++ (⟨#[32, 115, 119, 97, 112, 32]⟩ : ByteArray)) ++ t200) ++ (⟨#[32]⟩ : ByteArray)) ++ t201).size + 1 ≤ 9223372036854775807) = true := decide_eq_true c15
                    try have c15b2 : (9223372036854775807 < ((((((t198 ++ (⟨#[46]⟩ : ByteArray)) ++ t199) ++ (⟨#[32, 115, 119, 97, 112, 32]⟩ : ByteArray)) ++ t200) ++ (⟨#[32]⟩ : ByteArray)) ++ t201).size + 1) = False := eq_false (Nat.not_lt.2 c15)
                    have c15b3 : (9223372036854775807 < t198.size + 1 + t199.size + 6 + t200.size + 1 + t201.size + 1) = False := eq_false (Nat.not_lt.2 (by have z_ := c15; (repeat rw [ByteArray.size_append] at z_); exact z_))
                    replace H := Option.bind_eq_some_iff.mp H
                    obtain ⟨t202, A160, H⟩ := H
                    replace H : (if (((((((t198 ++ (⟨#[46]⟩ : ByteArray)) ++ t199) ++ (⟨#[32, 115, 119, 97, 112, 32]⟩ : ByteArray)) ++ t200) ++ (⟨#[32]⟩ : ByteArray)) ++ t201) ++ (⟨#[32]⟩ : ByteArray)).size + t202.size ≤ 9223372036854775807 then (some ((((((((t198 ++ (⟨#[46]⟩ : ByteArray)) ++ t199) ++ (⟨#[32, 115, 119, 97, 112, 32]⟩ : ByteArray)) ++ t200) ++ (⟨#[32]⟩ : ByteArray)) ++ t201) ++ (⟨#[32]⟩ : ByteArray)) ++ t202)) else (none)) = some r := H
                    have A16 := Aside0.mk A160
                    clear A160
                    by_cases c17 : (((((((t198 ++ (⟨#[46]⟩ : ByteArray)) ++ t199) ++ (⟨#[32, 115, 119, 97, 112, 32]⟩ : ByteArray)) ++ t200) ++ (⟨#[32]⟩ : ByteArray)) ++ t201) ++ (⟨#[32]⟩ : ByteArray)).size + t202.size ≤ 9223372036854775807
                    · rw [if_pos c17] at H
                      have c17b0 := eq_true c17
                      have c17b1 : decide ((((((((t198 ++ (⟨#[46]⟩ : ByteArray)) ++ t199) ++ (⟨#[32, 115, 119, 97, 112, 32]⟩ : ByteArray)) ++ t200) ++ (⟨#[32]⟩ : ByteArray)) ++ t201) ++ (⟨#[32]⟩ : ByteArray)).size + t202.size ≤ 9223372036854775807) = true := decide_eq_true c17
                      try have c17b2 : (9223372036854775807 < (((((((t198 ++ (⟨#[46]⟩ : ByteArray)) ++ t199) ++ (⟨#[32, 115, 119, 97, 112, 32]⟩ : ByteArray)) ++ t200) ++ (⟨#[32]⟩ : ByteArray)) ++ t201) ++ (⟨#[32]⟩ : ByteArray)).size + t202.size) = False := eq_false (Nat.not_lt.2 c17)
                      have c17b3 : (9223372036854775807 < t198.size + 1 + t199.size + 6 + t200.size + 1 + t201.size + 1 + t202.size) = False := eq_false (Nat.not_lt.2 (by have z_ := c17; (repeat rw [ByteArray.size_append] at z_); exact z_))
                      obtain rfl := Option.some.inj H
                      go_enter Tryd.func60, Tryd.ntmps60
                      try go_wp2_with (first | ((with_reducible refine gate_dst (N := 1) rfl ?_); refine box_event ?hg (N := 1) ?hd (cs := #[.int .i64 a0_0, .int .i64 a0_1, .int .i64 a0_2, .int .i64 a0_3, .int .i64 a0_4, .int .i64 a0_5]) (t := 42) ?hr ?_; (case hd => rfl); (case hg => rfl); (case hr => first | (go_simp; done) | (go_simp; rfl)); intro gb196 hg w18 hbox hb; have n0_ := Aside0.mk (below_step (by repeat (first | (with_reducible first | exact HB.out | apply below_alloc | apply pw_below_drewN | apply below_drew1) | exact HB.out)) hb); have n1_ := Aside0.mk (hbox); have n2_ := Aside0.mk ((by rw [hg]; exact (below_size (by repeat (first | (with_reducible first | exact HB.out | apply below_alloc | apply pw_below_drewN | apply below_drew1) | exact HB.out))) : w.heap.size ≤ gb196)); have n3_ := Aside0.mk ((by rw [hg]; exact (below_size (by repeat (first | (with_reducible first | exact HB.out | apply below_alloc | apply pw_below_drewN | apply below_drew1) | exact HB.out))) : w.heap.size ≤ gb196)); clear HB; have HB := n0_; have BK196 := n1_; have GW196 := n2_; have GE196 := n3_; clear n0_ n1_ n2_ n3_; clear hb hbox hg; have hcz19_0 : w18.cell? ⟨gb196, 0, none⟩ = some (.int .i64 a0_0) := (blk_cell BK196.out 0).trans rfl; have hcz19_1 : w18.cell? ⟨gb196, 1, none⟩ = some (.int .i64 a0_1) := (blk_cell BK196.out 1).trans rfl; have hcz19_2 : w18.cell? ⟨gb196, 2, none⟩ = some (.int .i64 a0_2) := (blk_cell BK196.out 2).trans rfl; have hcz19_3 : w18.cell? ⟨gb196, 3, none⟩ = some (.int .i64 a0_3) := (blk_cell BK196.out 3).trans rfl; have hcz19_4 : w18.cell? ⟨gb196, 4, none⟩ = some (.int .i64 a0_4) := (blk_cell BK196.out 4).trans rfl; have hcz19_5 : w18.cell? ⟨gb196, 5, none⟩ = some (.int .i64 a0_5) := (blk_cell BK196.out 5).trans rfl; have hfz19_0 := blk_frozen BK196.out 0; have hfz19_1 := blk_frozen BK196.out 1; have hfz19_2 := blk_frozen BK196.out 2; have hfz19_3 := blk_frozen BK196.out 3; have hfz19_4 := blk_frozen BK196.out 4; have hfz19_5 := blk_frozen BK196.out 5) | ((with_reducible refine gate_callee (f := 92) rfl ?_); refine goesL_ (some 5) rfl rfl Tryd.func92 (by kernel_rfl) rfl #[.agg #[.int .i64 a0_0, .int .i64 a0_1, .int .i64 a0_2, .int .i64 a0_3, .int .i64 a0_4, .int .i64 a0_5]] rfl (by (try simp only [List.map_toArray, List.map_cons, List.map_nil]); first | done | rfl | (simp only [List.length_drop, List.length_take]; rfl)) ?_; (with_reducible refine (impl_IsValidOp.calls a0_0 a0_1 a0_2 a0_3 a0_4 a0_5 true _ A2.out).mono ?_); rintro e w20 ⟨rfl, hb⟩; refine ⟨_, rfl, ?_⟩; have n0_ := Aside0.mk (blk_below (g := gb196) (o := .cells #[.int .i64 a0_0, .int .i64 a0_1, .int .i64 a0_2, .int .i64 a0_3, .int .i64 a0_4, .int .i64 a0_5] 42 (0, 0)) (by (with_reducible repeat (first | refine blk_drewN ?_ _ | refine blk_drew ?_ | refine blk_alloc ?_ _)); exact BK196.out) hb); have n1_ := Aside0.mk (below_step (by repeat (first | (with_reducible first | exact HB.out | apply below_alloc | apply pw_below_drewN | apply below_drew1 | refine below_set ?_ GE196.out) | exact HB.out)) hb); clear BK196; clear HB; have BK196 := n0_; have HB := n1_; clear n0_ n1_; (try clear hb); (try clear hb2); (try clear hk); (try clear hi)))
                      have n0_ := Aside0.mk (blk_drew BK196.out)
                      have n1_ := Aside0.mk (below_drew1 HB.out)
                      clear BK196
                      clear HB
                      have BK196 := n0_
                      have HB := n1_
                      clear n0_ n1_
                      refine start_ (n := 9) (S := fun w' => w'.cell? ⟨gb196, 0, none⟩ = some (.int .i64 a0_0) ∧ w'.cell? ⟨gb196, 1, none⟩ = some (.int .i64 a0_1) ∧ w'.cell? ⟨gb196, 2, none⟩ = some (.int .i64 a0_2) ∧ w'.cell? ⟨gb196, 3, none⟩ = some (.int .i64 a0_3) ∧ w'.cell? ⟨gb196, 4, none⟩ = some (.int .i64 a0_4) ∧ w'.cell? ⟨gb196, 5, none⟩ = some (.int .i64 a0_5)) (ds := []) #[false, false, false, false, false, false, false, false, false] (by kernel_rfl) rfl rfl ⟨(blk_cell BK196.out 0).trans rfl, (blk_cell BK196.out 1).trans rfl, (blk_cell BK196.out 2).trans rfl, (blk_cell BK196.out 3).trans rfl, (blk_cell BK196.out 4).trans rfl, (blk_cell BK196.out 5).trans rfl⟩ (fun hHeld => ?_); refine with_tabW impl_FormatOp.tab3 impl_FormatOp.bits3 (fun HT_ HW_ => ?_)
                      generalize w20.drew = w21 at BK196 HB hHeld ⊢
                      refine pure_ (i := 0) (N := some 7) (v := ?_) (a' := ?_) #[true, false, false, false, false, false, false, false, false] rfl rfl (any_of HT_.out (by kernel_rfl)) (fun _ _ _ h => h) (Or.inl ⟨by rfl, ?_⟩) ?_ ?_
                      rotate_left
                      · intro w'
                        go_simp
                        with_reducible rfl
                      rotate_left
                      · simp only [Act.put, List.setIfInBounds_toArray, List.set_cons_zero, List.set_cons_succ, i64_w, i32_w]
                        rfl
                      refine pure_ (i := 4) (N := some 11) (v := ?_) (a' := ?_) #[true, false, false, false, true, false, false, false, false] rfl rfl (any_of HT_.out (by kernel_rfl)) (fun _ _ _ h => h) (Or.inl ⟨by rfl, ?_⟩) ?_ ?_
                      rotate_left
                      · intro w'
                        go_simp
                        with_reducible rfl
                      rotate_left
                      · simp only [Act.put, List.setIfInBounds_toArray, List.set_cons_zero, List.set_cons_succ, i64_w, i32_w]
                        rfl
                      refine take_ (i := 1) (N := some 8) (v := ?_) (a' := ?_) #[true, true, false, false, true, false, false, false, false] rfl rfl (take_ofW HT_.out HW_.out (by kernel_rfl)) (fun _ _ _ h => h) (Or.inl ⟨by rfl, ?_⟩) hHeld ?_ ?_
                      rotate_left
                      · rintro w' ⟨s0, s1, s2, s3, s4, s5⟩
                        go_simp
                        with_reducible rfl
                      rotate_left
                      · simp only [Act.put, List.setIfInBounds_toArray, List.set_cons_zero, List.set_cons_succ, i64_w, i32_w]
                        rfl
                      refine take_ (i := 5) (N := some 12) (v := ?_) (a' := ?_) #[true, true, false, false, true, true, false, false, false] rfl rfl (take_ofW HT_.out HW_.out (by kernel_rfl)) (fun _ _ _ h => h) (Or.inl ⟨by rfl, ?_⟩) hHeld ?_ ?_
                      rotate_left
                      · rintro w' ⟨s0, s1, s2, s3, s4, s5⟩
                        go_simp
                        with_reducible rfl
                      rotate_left
                      · simp only [Act.put, List.setIfInBounds_toArray, List.set_cons_zero, List.set_cons_succ, i64_w, i32_w]
                        rfl
                      refine one_ (i := 2) (N := some 9) #[true, true, true, false, true, true, false, false, false] rfl rfl (one_of HT_.out (by kernel_rfl)) (by decide) (fun K hK => ?_)
                      refine goes_ Tryd.func84 (by kernel_rfl) rfl #[.int .i64 a0_0] (by rfl) rfl rfl (by (try simp only [List.map_toArray, List.map_cons, List.map_nil]); first | done | rfl | (simp only [List.length_drop, List.length_take]; rfl)) ?_
                      with_reducible refine (impl_FormatInt.calls a0_0 t198 _ ?side1 A4.out).mono ?_
                      (case side1 => exact WF_below hWF (by repeat (first | (with_reducible first | exact HB.out | apply below_alloc | apply pw_below_drewN | apply below_drew1 | refine below_set ?_ GE196.out) | exact HB.out)))
                      rintro e w22 ⟨rfl, hb⟩
                      refine ⟨_, rfl, ?_⟩
                      have n0_ := Aside0.mk (blk_below (g := gb196) (o := .cells #[.int .i64 a0_0, .int .i64 a0_1, .int .i64 a0_2, .int .i64 a0_3, .int .i64 a0_4, .int .i64 a0_5] 42 (0, 0)) (by (with_reducible repeat (first | refine blk_drewN ?_ _ | refine blk_drew ?_ | refine blk_alloc ?_ _)); exact BK196.out) hb)
                      have n1_ := Aside0.mk (below_step (by repeat (first | (with_reducible first | exact HB.out | apply below_alloc | apply pw_below_drewN | apply below_drew1 | refine below_set ?_ GE196.out) | exact HB.out)) hb)
                      clear BK196
                      clear HB
                      have BK196 := n0_
                      have HB := n1_
                      clear n0_ n1_
                      (try clear hb)
                      (try clear hb2)
                      (try clear hk)
                      (try clear hi)
                      refine hK.out _ _ ⟨(blk_cell BK196.out 0).trans rfl, (blk_cell BK196.out 1).trans rfl, (blk_cell BK196.out 2).trans rfl, (blk_cell BK196.out 3).trans rfl, (blk_cell BK196.out 4).trans rfl, (blk_cell BK196.out 5).trans rfl⟩ (fun hHeld => ?_)
                      clear hK K
                      refine norm_ (a' := ?_) ?_ ?_
                      rotate_left
                      · show Act.put _ (some 9) _ = _
                        simp only [Act.put, List.setIfInBounds_toArray, List.set_cons_zero, List.set_cons_succ, i64_w, i32_w]
                        rfl
                      refine pure_ (i := 3) (N := some 10) (v := ?_) (a' := ?_) #[true, true, true, true, true, true, false, false, false] rfl rfl (any_of HT_.out (by kernel_rfl)) (fun _ _ _ h => h) (Or.inl ⟨by rfl, ?_⟩) ?_ ?_
                      rotate_left
                      · intro w'
                        go_simp
                        with_reducible rfl
                      rotate_left
                      · simp only [Act.put, List.setIfInBounds_toArray, List.set_cons_zero, List.set_cons_succ, i64_w, i32_w]
                        rfl
                      refine one_ (i := 6) (N := some 13) #[true, true, true, true, true, true, true, false, false] rfl rfl (one_of HT_.out (by kernel_rfl)) (by decide) (fun K hK => ?_)
                      refine goes_ Tryd.func84 (by kernel_rfl) rfl #[.int .i64 a0_1] (by rfl) rfl rfl (by (try simp only [List.map_toArray, List.map_cons, List.map_nil]); first | done | rfl | (simp only [List.length_drop, List.length_take]; rfl)) ?_
                      with_reducible refine (impl_FormatInt.calls a0_1 t199 _ ?side1 A6.out).mono ?_
                      (case side1 => exact WF_below hWF (by repeat (first | (with_reducible first | exact HB.out | apply below_alloc | apply pw_below_drewN | apply below_drew1 | refine below_set ?_ GE196.out) | exact HB.out)))
                      rintro e w23 ⟨rfl, hb⟩
                      refine ⟨_, rfl, ?_⟩
                      have n0_ := Aside0.mk (blk_below (g := gb196) (o := .cells #[.int .i64 a0_0, .int .i64 a0_1, .int .i64 a0_2, .int .i64 a0_3, .int .i64 a0_4, .int .i64 a0_5] 42 (0, 0)) (by (with_reducible repeat (first | refine blk_drewN ?_ _ | refine blk_drew ?_ | refine blk_alloc ?_ _)); exact BK196.out) hb)
                      have n1_ := Aside0.mk (below_step (by repeat (first | (with_reducible first | exact HB.out | apply below_alloc | apply pw_below_drewN | apply below_drew1 | refine below_set ?_ GE196.out) | exact HB.out)) hb)
                      clear BK196
                      clear HB
                      have BK196 := n0_
                      have HB := n1_
                      clear n0_ n1_
                      (try clear hb)
                      (try clear hb2)
                      (try clear hk)
                      (try clear hi)
                      refine hK.out _ _ ⟨(blk_cell BK196.out 0).trans rfl, (blk_cell BK196.out 1).trans rfl, (blk_cell BK196.out 2).trans rfl, (blk_cell BK196.out 3).trans rfl, (blk_cell BK196.out 4).trans rfl, (blk_cell BK196.out 5).trans rfl⟩ (fun hHeld => ?_)
                      clear hK K
                      refine norm_ (a' := ?_) ?_ ?_
                      rotate_left
                      · show Act.put _ (some 13) _ = _
                        simp only [Act.put, List.setIfInBounds_toArray, List.set_cons_zero, List.set_cons_succ, i64_w, i32_w]
                        rfl
                      refine pure_ (i := 7) (N := some 14) (v := ?_) (a' := ?_) #[true, true, true, true, true, true, true, true, false] rfl rfl (any_of HT_.out (by kernel_rfl)) (fun _ _ _ h => h) (Or.inl ⟨by rfl, ?_⟩) ?_ ?_
                      rotate_left
                      · intro w'
                        go_simp
                        with_reducible rfl
                      rotate_left
                      · simp only [Act.put, List.setIfInBounds_toArray, List.set_cons_zero, List.set_cons_succ, i64_w, i32_w]
                        rfl
                      refine pure_ (i := 8) (N := some 3) (v := ?_) (a' := ?_) #[true, true, true, true, true, true, true, true, true] rfl rfl (any_of HT_.out (by kernel_rfl)) (fun _ _ _ h => h) (Or.inl ⟨by rfl, ?_⟩) ?_ ?_
                      rotate_left
                      · intro w'
                        go_simp
                        with_reducible rfl
                      rotate_left
                      · simp only [Act.put, List.setIfInBounds_toArray, List.set_cons_zero, List.set_cons_succ, i64_w, i32_w]
                        rfl
                      refine done_ (done_of HT_.out (by kernel_rfl)) ?_
                      have hcz24_0 : w23.cell? ⟨gb196, 0, none⟩ = some (.int .i64 a0_0) := (blk_cell BK196.out 0).trans rfl
                      have hcz24_1 : w23.cell? ⟨gb196, 1, none⟩ = some (.int .i64 a0_1) := (blk_cell BK196.out 1).trans rfl
                      have hcz24_2 : w23.cell? ⟨gb196, 2, none⟩ = some (.int .i64 a0_2) := (blk_cell BK196.out 2).trans rfl
                      have hcz24_3 : w23.cell? ⟨gb196, 3, none⟩ = some (.int .i64 a0_3) := (blk_cell BK196.out 3).trans rfl
                      have hcz24_4 : w23.cell? ⟨gb196, 4, none⟩ = some (.int .i64 a0_4) := (blk_cell BK196.out 4).trans rfl
                      have hcz24_5 : w23.cell? ⟨gb196, 5, none⟩ = some (.int .i64 a0_5) := (blk_cell BK196.out 5).trans rfl
                      have hfz24_0 := blk_frozen BK196.out 0
                      have hfz24_1 := blk_frozen BK196.out 1
                      have hfz24_2 := blk_frozen BK196.out 2
                      have hfz24_3 := blk_frozen BK196.out 3
                      have hfz24_4 := blk_frozen BK196.out 4
                      have hfz24_5 := blk_frozen BK196.out 5
                      try go_wp2
                      have n0_ := Aside0.mk (blk_drew BK196.out)
                      have n1_ := Aside0.mk (below_drew1 HB.out)
                      clear BK196
                      clear HB
                      have BK196 := n0_
                      have HB := n1_
                      clear n0_ n1_
                      refine start_ (n := 17) (S := fun w' => w'.cell? ⟨gb196, 0, none⟩ = some (.int .i64 a0_0) ∧ w'.cell? ⟨gb196, 1, none⟩ = some (.int .i64 a0_1) ∧ w'.cell? ⟨gb196, 2, none⟩ = some (.int .i64 a0_2) ∧ w'.cell? ⟨gb196, 3, none⟩ = some (.int .i64 a0_3) ∧ w'.cell? ⟨gb196, 4, none⟩ = some (.int .i64 a0_4) ∧ w'.cell? ⟨gb196, 5, none⟩ = some (.int .i64 a0_5)) (ds := []) #[false, false, false, false, false, false, false, false, false, false, false, false, false, false, false, false, false] (by kernel_rfl) rfl rfl ⟨(blk_cell BK196.out 0).trans rfl, (blk_cell BK196.out 1).trans rfl, (blk_cell BK196.out 2).trans rfl, (blk_cell BK196.out 3).trans rfl, (blk_cell BK196.out 4).trans rfl, (blk_cell BK196.out 5).trans rfl⟩ (fun hHeld => ?_); refine with_tabW impl_FormatOp.tab5 impl_FormatOp.bits5 (fun HT_ HW_ => ?_)
                      generalize w23.drew = w25 at BK196 HB hHeld ⊢
                      refine pure_ (i := 0) (N := some 18) (v := ?_) (a' := ?_) #[true, false, false, false, false, false, false, false, false, false, false, false, false, false, false, false, false] rfl rfl (any_of HT_.out (by kernel_rfl)) (fun _ _ _ h => h) (Or.inl ⟨by rfl, ?_⟩) ?_ ?_
                      rotate_left
                      · intro w'
                        go_simp
                        with_reducible rfl
                      rotate_left
                      · simp only [Act.put, List.setIfInBounds_toArray, List.set_cons_zero, List.set_cons_succ, i64_w, i32_w]
                        rfl
                      refine pure_ (i := 1) (N := some 19) (v := ?_) (a' := ?_) #[true, true, false, false, false, false, false, false, false, false, false, false, false, false, false, false, false] rfl rfl (any_of HT_.out (by kernel_rfl)) (fun _ _ _ h => h) (Or.inl ⟨by rfl, ?_⟩) ?_ ?_
                      rotate_left
                      · intro w'
                        go_simp
                        with_reducible rfl
                      rotate_left
                      · simp only [Act.put, List.setIfInBounds_toArray, List.set_cons_zero, List.set_cons_succ, i64_w, i32_w]
                        rfl
                      refine pure_ (i := 2) (N := some 20) (v := ?_) (a' := ?_) #[true, true, true, false, false, false, false, false, false, false, false, false, false, false, false, false, false] rfl rfl (any_of HT_.out (by kernel_rfl)) (fun _ _ _ h => h) (Or.inl ⟨by rfl, ?_⟩) ?_ ?_
                      rotate_left
                      · intro w'
                        go_simp
                        with_reducible rfl
                      rotate_left
                      · simp only [Act.put, List.setIfInBounds_toArray, List.set_cons_zero, List.set_cons_succ, i64_w, i32_w]
                        rfl
                      refine pure_ (i := 7) (N := some 25) (v := ?_) (a' := ?_) #[true, true, true, false, false, false, false, true, false, false, false, false, false, false, false, false, false] rfl rfl (any_of HT_.out (by kernel_rfl)) (fun _ _ _ h => h) (Or.inl ⟨by rfl, ?_⟩) ?_ ?_
                      rotate_left
                      · intro w'
                        go_simp
                        with_reducible rfl
                      rotate_left
                      · simp only [Act.put, List.setIfInBounds_toArray, List.set_cons_zero, List.set_cons_succ, i64_w, i32_w]
                        rfl
                      refine pure_ (i := 12) (N := some 30) (v := ?_) (a' := ?_) #[true, true, true, false, false, false, false, true, false, false, false, false, true, false, false, false, false] rfl rfl (any_of HT_.out (by kernel_rfl)) (fun _ _ _ h => h) (Or.inl ⟨by rfl, ?_⟩) ?_ ?_
                      rotate_left
                      · intro w'
                        go_simp
                        with_reducible rfl
                      rotate_left
                      · simp only [Act.put, List.setIfInBounds_toArray, List.set_cons_zero, List.set_cons_succ, i64_w, i32_w]
                        rfl
                      refine take_ (i := 3) (N := some 21) (v := ?_) (a' := ?_) #[true, true, true, true, false, false, false, true, false, false, false, false, true, false, false, false, false] rfl rfl (take_ofW HT_.out HW_.out (by kernel_rfl)) (fun _ _ _ h => h) (Or.inl ⟨by rfl, ?_⟩) hHeld ?_ ?_
                      rotate_left
                      · rintro w' ⟨s0, s1, s2, s3, s4, s5⟩
                        go_simp
                        with_reducible rfl
                      rotate_left
                      · simp only [Act.put, List.setIfInBounds_toArray, List.set_cons_zero, List.set_cons_succ, i64_w, i32_w]
                        rfl
                      refine take_ (i := 8) (N := some 26) (v := ?_) (a' := ?_) #[true, true, true, true, false, false, false, true, true, false, false, false, true, false, false, false, false] rfl rfl (take_ofW HT_.out HW_.out (by kernel_rfl)) (fun _ _ _ h => h) (Or.inl ⟨by rfl, ?_⟩) hHeld ?_ ?_
                      rotate_left
                      · rintro w' ⟨s0, s1, s2, s3, s4, s5⟩
                        go_simp
                        with_reducible rfl
                      rotate_left
                      · simp only [Act.put, List.setIfInBounds_toArray, List.set_cons_zero, List.set_cons_succ, i64_w, i32_w]
                        rfl
                      refine take_ (i := 13) (N := some 31) (v := ?_) (a' := ?_) #[true, true, true, true, false, false, false, true, true, false, false, false, true, true, false, false, false] rfl rfl (take_ofW HT_.out HW_.out (by kernel_rfl)) (fun _ _ _ h => h) (Or.inl ⟨by rfl, ?_⟩) hHeld ?_ ?_
                      rotate_left
                      · rintro w' ⟨s0, s1, s2, s3, s4, s5⟩
                        go_simp
                        with_reducible rfl
                      rotate_left
                      · simp only [Act.put, List.setIfInBounds_toArray, List.set_cons_zero, List.set_cons_succ, i64_w, i32_w]
                        rfl
                      refine one_ (i := 4) (N := some 22) #[true, true, true, true, true, false, false, true, true, false, false, false, true, true, false, false, false] rfl rfl (one_of HT_.out (by kernel_rfl)) (by decide) (fun K hK => ?_)
                      refine goes_ Tryd.func84 (by kernel_rfl) rfl #[.int .i64 a0_3] (by rfl) rfl rfl (by (try simp only [List.map_toArray, List.map_cons, List.map_nil]); first | done | rfl | (simp only [List.length_drop, List.length_take]; rfl)) ?_
                      with_reducible refine (impl_FormatInt.calls a0_3 t200 _ ?side1 A10.out).mono ?_
                      (case side1 => exact WF_below hWF (by repeat (first | (with_reducible first | exact HB.out | apply below_alloc | apply pw_below_drewN | apply below_drew1 | refine below_set ?_ GE196.out) | exact HB.out)))
                      rintro e w26 ⟨rfl, hb⟩
                      refine ⟨_, rfl, ?_⟩
                      have n0_ := Aside0.mk (blk_below (g := gb196) (o := .cells #[.int .i64 a0_0, .int .i64 a0_1, .int .i64 a0_2, .int .i64 a0_3, .int .i64 a0_4, .int .i64 a0_5] 42 (0, 0)) (by (with_reducible repeat (first | refine blk_drewN ?_ _ | refine blk_drew ?_ | refine blk_alloc ?_ _)); exact BK196.out) hb)
                      have n1_ := Aside0.mk (below_step (by repeat (first | (with_reducible first | exact HB.out | apply below_alloc | apply pw_below_drewN | apply below_drew1 | refine below_set ?_ GE196.out) | exact HB.out)) hb)
                      clear BK196
                      clear HB
                      have BK196 := n0_
                      have HB := n1_
                      clear n0_ n1_
                      (try clear hb)
                      (try clear hb2)
                      (try clear hk)
                      (try clear hi)
                      refine hK.out _ _ ⟨(blk_cell BK196.out 0).trans rfl, (blk_cell BK196.out 1).trans rfl, (blk_cell BK196.out 2).trans rfl, (blk_cell BK196.out 3).trans rfl, (blk_cell BK196.out 4).trans rfl, (blk_cell BK196.out 5).trans rfl⟩ (fun hHeld => ?_)
                      clear hK K
                      refine norm_ (a' := ?_) ?_ ?_
                      rotate_left
                      · show Act.put _ (some 22) _ = _
                        simp only [Act.put, List.setIfInBounds_toArray, List.set_cons_zero, List.set_cons_succ, i64_w, i32_w]
                        rfl
                      refine pure_ (i := 5) (N := some 23) (v := ?_) (a' := ?_) #[true, true, true, true, true, true, false, true, true, false, false, false, true, true, false, false, false] rfl rfl (any_of HT_.out (by kernel_rfl)) (fun _ _ _ h => h) (Or.inl ⟨by rfl, ?_⟩) ?_ ?_
                      rotate_left
                      · intro w'
                        go_simp
                        with_reducible rfl
                      rotate_left
                      · simp only [Act.put, List.setIfInBounds_toArray, List.set_cons_zero, List.set_cons_succ, i64_w, i32_w]
                        rfl
                      refine pure_ (i := 6) (N := some 24) (v := ?_) (a' := ?_) #[true, true, true, true, true, true, true, true, true, false, false, false, true, true, false, false, false] rfl rfl (any_of HT_.out (by kernel_rfl)) (fun _ _ _ h => h) (Or.inl ⟨by rfl, ?_⟩) ?_ ?_
                      rotate_left
                      · intro w'
                        go_simp
                        with_reducible rfl
                      rotate_left
                      · simp only [Act.put, List.setIfInBounds_toArray, List.set_cons_zero, List.set_cons_succ, i64_w, i32_w]
                        rfl
                      refine one_ (i := 9) (N := some 27) #[true, true, true, true, true, true, true, true, true, true, false, false, true, true, false, false, false] rfl rfl (one_of HT_.out (by kernel_rfl)) (by decide) (fun K hK => ?_)
                      refine goes_ Tryd.func84 (by kernel_rfl) rfl #[.int .i64 a0_4] (by rfl) rfl rfl (by (try simp only [List.map_toArray, List.map_cons, List.map_nil]); first | done | rfl | (simp only [List.length_drop, List.length_take]; rfl)) ?_
                      with_reducible refine (impl_FormatInt.calls a0_4 t201 _ ?side1 A13.out).mono ?_
                      (case side1 => exact WF_below hWF (by repeat (first | (with_reducible first | exact HB.out | apply below_alloc | apply pw_below_drewN | apply below_drew1 | refine below_set ?_ GE196.out) | exact HB.out)))
                      rintro e w27 ⟨rfl, hb⟩
                      refine ⟨_, rfl, ?_⟩
                      have n0_ := Aside0.mk (blk_below (g := gb196) (o := .cells #[.int .i64 a0_0, .int .i64 a0_1, .int .i64 a0_2, .int .i64 a0_3, .int .i64 a0_4, .int .i64 a0_5] 42 (0, 0)) (by (with_reducible repeat (first | refine blk_drewN ?_ _ | refine blk_drew ?_ | refine blk_alloc ?_ _)); exact BK196.out) hb)
                      have n1_ := Aside0.mk (below_step (by repeat (first | (with_reducible first | exact HB.out | apply below_alloc | apply pw_below_drewN | apply below_drew1 | refine below_set ?_ GE196.out) | exact HB.out)) hb)
                      clear BK196
                      clear HB
                      have BK196 := n0_
                      have HB := n1_
                      clear n0_ n1_
                      (try clear hb)
                      (try clear hb2)
                      (try clear hk)
                      (try clear hi)
                      refine hK.out _ _ ⟨(blk_cell BK196.out 0).trans rfl, (blk_cell BK196.out 1).trans rfl, (blk_cell BK196.out 2).trans rfl, (blk_cell BK196.out 3).trans rfl, (blk_cell BK196.out 4).trans rfl, (blk_cell BK196.out 5).trans rfl⟩ (fun hHeld => ?_)
                      clear hK K
                      refine norm_ (a' := ?_) ?_ ?_
                      rotate_left
                      · show Act.put _ (some 27) _ = _
                        simp only [Act.put, List.setIfInBounds_toArray, List.set_cons_zero, List.set_cons_succ, i64_w, i32_w]
                        rfl
                      refine pure_ (i := 10) (N := some 28) (v := ?_) (a' := ?_) #[true, true, true, true, true, true, true, true, true, true, true, false, true, true, false, false, false] rfl rfl (any_of HT_.out (by kernel_rfl)) (fun _ _ _ h => h) (Or.inl ⟨by rfl, ?_⟩) ?_ ?_
                      rotate_left
                      · intro w'
                        go_simp
                        with_reducible rfl
                      rotate_left
                      · simp only [Act.put, List.setIfInBounds_toArray, List.set_cons_zero, List.set_cons_succ, i64_w, i32_w]
                        rfl
                      refine pure_ (i := 11) (N := some 29) (v := ?_) (a' := ?_) #[true, true, true, true, true, true, true, true, true, true, true, true, true, true, false, false, false] rfl rfl (any_of HT_.out (by kernel_rfl)) (fun _ _ _ h => h) (Or.inl ⟨by rfl, ?_⟩) ?_ ?_
                      rotate_left
                      · intro w'
                        go_simp
                        with_reducible rfl
                      rotate_left
                      · simp only [Act.put, List.setIfInBounds_toArray, List.set_cons_zero, List.set_cons_succ, i64_w, i32_w]
                        rfl
                      refine one_ (i := 14) (N := some 32) #[true, true, true, true, true, true, true, true, true, true, true, true, true, true, true, false, false] rfl rfl (one_of HT_.out (by kernel_rfl)) (by decide) (fun K hK => ?_)
                      refine goes_ Tryd.func84 (by kernel_rfl) rfl #[.int .i64 a0_5] (by rfl) rfl rfl (by (try simp only [List.map_toArray, List.map_cons, List.map_nil]); first | done | rfl | (simp only [List.length_drop, List.length_take]; rfl)) ?_
                      with_reducible refine (impl_FormatInt.calls a0_5 t202 _ ?side1 A16.out).mono ?_
                      (case side1 => exact WF_below hWF (by repeat (first | (with_reducible first | exact HB.out | apply below_alloc | apply pw_below_drewN | apply below_drew1 | refine below_set ?_ GE196.out) | exact HB.out)))
                      rintro e w28 ⟨rfl, hb⟩
                      refine ⟨_, rfl, ?_⟩
                      have n0_ := Aside0.mk (blk_below (g := gb196) (o := .cells #[.int .i64 a0_0, .int .i64 a0_1, .int .i64 a0_2, .int .i64 a0_3, .int .i64 a0_4, .int .i64 a0_5] 42 (0, 0)) (by (with_reducible repeat (first | refine blk_drewN ?_ _ | refine blk_drew ?_ | refine blk_alloc ?_ _)); exact BK196.out) hb)
                      have n1_ := Aside0.mk (below_step (by repeat (first | (with_reducible first | exact HB.out | apply below_alloc | apply pw_below_drewN | apply below_drew1 | refine below_set ?_ GE196.out) | exact HB.out)) hb)
                      clear BK196
                      clear HB
                      have BK196 := n0_
                      have HB := n1_
                      clear n0_ n1_
                      (try clear hb)
                      (try clear hb2)
                      (try clear hk)
                      (try clear hi)
                      refine hK.out _ _ ⟨(blk_cell BK196.out 0).trans rfl, (blk_cell BK196.out 1).trans rfl, (blk_cell BK196.out 2).trans rfl, (blk_cell BK196.out 3).trans rfl, (blk_cell BK196.out 4).trans rfl, (blk_cell BK196.out 5).trans rfl⟩ (fun hHeld => ?_)
                      clear hK K
                      refine norm_ (a' := ?_) ?_ ?_
                      rotate_left
                      · show Act.put _ (some 32) _ = _
                        simp only [Act.put, List.setIfInBounds_toArray, List.set_cons_zero, List.set_cons_succ, i64_w, i32_w]
                        rfl
                      refine pure_ (i := 15) (N := some 33) (v := ?_) (a' := ?_) #[true, true, true, true, true, true, true, true, true, true, true, true, true, true, true, true, false] rfl rfl (any_of HT_.out (by kernel_rfl)) (fun _ _ _ h => h) (Or.inl ⟨by rfl, ?_⟩) ?_ ?_
                      rotate_left
                      · intro w'
                        go_simp
                        with_reducible rfl
                      rotate_left
                      · simp only [Act.put, List.setIfInBounds_toArray, List.set_cons_zero, List.set_cons_succ, i64_w, i32_w]
                        rfl
                      refine pure_ (i := 16) (N := some 2) (v := ?_) (a' := ?_) #[true, true, true, true, true, true, true, true, true, true, true, true, true, true, true, true, true] rfl rfl (any_of HT_.out (by kernel_rfl)) (fun _ _ _ h => h) (Or.inl ⟨by rfl, ?_⟩) ?_ ?_
                      rotate_left
                      · intro w'
                        go_simp
                        with_reducible rfl
                      rotate_left
                      · simp only [Act.put, List.setIfInBounds_toArray, List.set_cons_zero, List.set_cons_succ, i64_w, i32_w]
                        rfl
                      refine done_ (done_of HT_.out (by kernel_rfl)) ?_
                      try go_wp2
                      go_ret
                      exact ⟨by first | rfl | (simp [errW_none, errW_some] <;> rfl) | (simp [*, errW_none, errW_some] <;> rfl), by repeat (first | (with_reducible first | exact HB.out | apply below_alloc | apply pw_below_drewN | apply below_drew1 | refine below_set ?_ GE196.out) | exact HB.out)⟩
                    · rw [if_neg c17] at H
                      exact absurd H (by simp)
                  · rw [if_neg c15] at H
                    exact absurd H (by simp)
                · rw [if_neg c14] at H
                  exact absurd H (by simp)
              · rw [if_neg c12] at H
                exact absurd H (by simp)
            · rw [if_neg c11] at H
              exact absurd H (by simp)
          · rw [if_neg c9] at H
            exact absurd H (by simp)
        · rw [if_neg c8] at H
          have c8b0 : (a0_2 == 2) = false := beq_eq_false_iff_ne.mpr c8
          have c8b1 : (a0_2 != 2) = true := bne_iff_ne.mpr c8
          by_cases c29 : ((t198 ++ (⟨#[46]⟩ : ByteArray)) ++ t199).size + 7 ≤ 9223372036854775807
          · rw [if_pos c29] at H
            have c29b0 := eq_true c29
            have c29b1 : decide (((t198 ++ (⟨#[46]⟩ : ByteArray)) ++ t199).size + 7 ≤ 9223372036854775807) = true := decide_eq_true c29
            try have c29b2 : (9223372036854775807 < ((t198 ++ (⟨#[46]⟩ : ByteArray)) ++ t199).size + 7) = False := eq_false (Nat.not_lt.2 c29)
            have c29b3 : (9223372036854775807 < t198.size + 1 + t199.size + 7) = False := eq_false (Nat.not_lt.2 (by have z_ := c29; (repeat rw [ByteArray.size_append] at z_); exact z_))
            replace H := Option.bind_eq_some_iff.mp H
            obtain ⟨t203, A300, H⟩ := H
            replace H : (if (((t198 ++ (⟨#[46]⟩ : ByteArray)) ++ t199) ++ (⟨#[32, 119, 114, 105, 116, 101, 32]⟩ : ByteArray)).size + t203.size ≤ 9223372036854775807 then (if ((((t198 ++ (⟨#[46]⟩ : ByteArray)) ++ t199) ++ (⟨#[32, 119, 114, 105, 116, 101, 32]⟩ : ByteArray)) ++ t203).size + 1 ≤ 9223372036854775807 then ((impl_FormatInt.f a0_5).bind fun t204 => (if (((((t198 ++ (⟨#[46]⟩ : ByteArray)) ++ t199) ++ (⟨#[32, 119, 114, 105, 116, 101, 32]⟩ : ByteArray)) ++ t203) ++ (⟨#[32]⟩ : ByteArray)).size + t204.size ≤ 9223372036854775807 then (some ((((((t198 ++ (⟨#[46]⟩ : ByteArray)) ++ t199) ++ (⟨#[32, 119, 114, 105, 116, 101, 32]⟩ : ByteArray)) ++ t203) ++ (⟨#[32]⟩ : ByteArray)) ++ t204)) else (none))) else (none)) else (none)) = some r := H
            have A30 := Aside0.mk A300
            clear A300
            by_cases c31 : (((t198 ++ (⟨#[46]⟩ : ByteArray)) ++ t199) ++ (⟨#[32, 119, 114, 105, 116, 101, 32]⟩ : ByteArray)).size + t203.size ≤ 9223372036854775807
            · rw [if_pos c31] at H
              have c31b0 := eq_true c31
              have c31b1 : decide ((((t198 ++ (⟨#[46]⟩ : ByteArray)) ++ t199) ++ (⟨#[32, 119, 114, 105, 116, 101, 32]⟩ : ByteArray)).size + t203.size ≤ 9223372036854775807) = true := decide_eq_true c31
              try have c31b2 : (9223372036854775807 < (((t198 ++ (⟨#[46]⟩ : ByteArray)) ++ t199) ++ (⟨#[32, 119, 114, 105, 116, 101, 32]⟩ : ByteArray)).size + t203.size) = False := eq_false (Nat.not_lt.2 c31)
              have c31b3 : (9223372036854775807 < t198.size + 1 + t199.size + 7 + t203.size) = False := eq_false (Nat.not_lt.2 (by have z_ := c31; (repeat rw [ByteArray.size_append] at z_); exact z_))
              by_cases c32 : ((((t198 ++ (⟨#[46]⟩ : ByteArray)) ++ t199) ++ (⟨#[32, 119, 114, 105, 116, 101, 32]⟩ : ByteArray)) ++ t203).size + 1 ≤ 9223372036854775807
              · rw [if_pos c32] at H
                have c32b0 := eq_true c32
                have c32b1 : decide (((((t198 ++ (⟨#[46]⟩ : ByteArray)) ++ t199) ++ (⟨#[32, 119, 114, 105, 116, 101, 32]⟩ : ByteArray)) ++ t203).size + 1 ≤ 9223372036854775807) = true := decide_eq_true c32
                try have c32b2 : (9223372036854775807 < ((((t198 ++ (⟨#[46]⟩ : ByteArray)) ++ t199) ++ (⟨#[32, 119, 114, 105, 116, 101, 32]⟩ : ByteArray)) ++ t203).size + 1) = False := eq_false (Nat.not_lt.2 c32)
                have c32b3 : (9223372036854775807 < t198.size + 1 + t199.size + 7 + t203.size + 1) = False := eq_false (Nat.not_lt.2 (by have z_ := c32; (repeat rw [ByteArray.size_append] at z_); exact z_))
                replace H := Option.bind_eq_some_iff.mp H
                obtain ⟨t204, A330, H⟩ := H
                replace H : (if (((((t198 ++ (⟨#[46]⟩ : ByteArray)) ++ t199) ++ (⟨#[32, 119, 114, 105, 116, 101, 32]⟩ : ByteArray)) ++ t203) ++ (⟨#[32]⟩ : ByteArray)).size + t204.size ≤ 9223372036854775807 then (some ((((((t198 ++ (⟨#[46]⟩ : ByteArray)) ++ t199) ++ (⟨#[32, 119, 114, 105, 116, 101, 32]⟩ : ByteArray)) ++ t203) ++ (⟨#[32]⟩ : ByteArray)) ++ t204)) else (none)) = some r := H
                have A33 := Aside0.mk A330
                clear A330
                by_cases c34 : (((((t198 ++ (⟨#[46]⟩ : ByteArray)) ++ t199) ++ (⟨#[32, 119, 114, 105, 116, 101, 32]⟩ : ByteArray)) ++ t203) ++ (⟨#[32]⟩ : ByteArray)).size + t204.size ≤ 9223372036854775807
                · rw [if_pos c34] at H
                  have c34b0 := eq_true c34
                  have c34b1 : decide ((((((t198 ++ (⟨#[46]⟩ : ByteArray)) ++ t199) ++ (⟨#[32, 119, 114, 105, 116, 101, 32]⟩ : ByteArray)) ++ t203) ++ (⟨#[32]⟩ : ByteArray)).size + t204.size ≤ 9223372036854775807) = true := decide_eq_true c34
                  try have c34b2 : (9223372036854775807 < (((((t198 ++ (⟨#[46]⟩ : ByteArray)) ++ t199) ++ (⟨#[32, 119, 114, 105, 116, 101, 32]⟩ : ByteArray)) ++ t203) ++ (⟨#[32]⟩ : ByteArray)).size + t204.size) = False := eq_false (Nat.not_lt.2 c34)
                  have c34b3 : (9223372036854775807 < t198.size + 1 + t199.size + 7 + t203.size + 1 + t204.size) = False := eq_false (Nat.not_lt.2 (by have z_ := c34; (repeat rw [ByteArray.size_append] at z_); exact z_))
                  obtain rfl := Option.some.inj H
                  go_enter Tryd.func60, Tryd.ntmps60
                  try go_wp2_with (first | ((with_reducible refine gate_dst (N := 1) rfl ?_); refine box_event ?hg (N := 1) ?hd (cs := #[.int .i64 a0_0, .int .i64 a0_1, .int .i64 a0_2, .int .i64 a0_3, .int .i64 a0_4, .int .i64 a0_5]) (t := 42) ?hr ?_; (case hd => rfl); (case hg => rfl); (case hr => first | (go_simp; done) | (go_simp; rfl)); intro gb196 hg w35 hbox hb; have n0_ := Aside0.mk (below_step (by repeat (first | (with_reducible first | exact HB.out | apply below_alloc | apply pw_below_drewN | apply below_drew1) | exact HB.out)) hb); have n1_ := Aside0.mk (hbox); have n2_ := Aside0.mk ((by rw [hg]; exact (below_size (by repeat (first | (with_reducible first | exact HB.out | apply below_alloc | apply pw_below_drewN | apply below_drew1) | exact HB.out))) : w.heap.size ≤ gb196)); have n3_ := Aside0.mk ((by rw [hg]; exact (below_size (by repeat (first | (with_reducible first | exact HB.out | apply below_alloc | apply pw_below_drewN | apply below_drew1) | exact HB.out))) : w.heap.size ≤ gb196)); clear HB; have HB := n0_; have BK196 := n1_; have GW196 := n2_; have GE196 := n3_; clear n0_ n1_ n2_ n3_; clear hb hbox hg; have hcz36_0 : w35.cell? ⟨gb196, 0, none⟩ = some (.int .i64 a0_0) := (blk_cell BK196.out 0).trans rfl; have hcz36_1 : w35.cell? ⟨gb196, 1, none⟩ = some (.int .i64 a0_1) := (blk_cell BK196.out 1).trans rfl; have hcz36_2 : w35.cell? ⟨gb196, 2, none⟩ = some (.int .i64 a0_2) := (blk_cell BK196.out 2).trans rfl; have hcz36_3 : w35.cell? ⟨gb196, 3, none⟩ = some (.int .i64 a0_3) := (blk_cell BK196.out 3).trans rfl; have hcz36_4 : w35.cell? ⟨gb196, 4, none⟩ = some (.int .i64 a0_4) := (blk_cell BK196.out 4).trans rfl; have hcz36_5 : w35.cell? ⟨gb196, 5, none⟩ = some (.int .i64 a0_5) := (blk_cell BK196.out 5).trans rfl; have hfz36_0 := blk_frozen BK196.out 0; have hfz36_1 := blk_frozen BK196.out 1; have hfz36_2 := blk_frozen BK196.out 2; have hfz36_3 := blk_frozen BK196.out 3; have hfz36_4 := blk_frozen BK196.out 4; have hfz36_5 := blk_frozen BK196.out 5) | ((with_reducible refine gate_callee (f := 92) rfl ?_); refine goesL_ (some 5) rfl rfl Tryd.func92 (by kernel_rfl) rfl #[.agg #[.int .i64 a0_0, .int .i64 a0_1, .int .i64 a0_2, .int .i64 a0_3, .int .i64 a0_4, .int .i64 a0_5]] rfl (by (try simp only [List.map_toArray, List.map_cons, List.map_nil]); first | done | rfl | (simp only [List.length_drop, List.length_take]; rfl)) ?_; (with_reducible refine (impl_IsValidOp.calls a0_0 a0_1 a0_2 a0_3 a0_4 a0_5 true _ A2.out).mono ?_); rintro e w37 ⟨rfl, hb⟩; refine ⟨_, rfl, ?_⟩; have n0_ := Aside0.mk (blk_below (g := gb196) (o := .cells #[.int .i64 a0_0, .int .i64 a0_1, .int .i64 a0_2, .int .i64 a0_3, .int .i64 a0_4, .int .i64 a0_5] 42 (0, 0)) (by (with_reducible repeat (first | refine blk_drewN ?_ _ | refine blk_drew ?_ | refine blk_alloc ?_ _)); exact BK196.out) hb); have n1_ := Aside0.mk (below_step (by repeat (first | (with_reducible first | exact HB.out | apply below_alloc | apply pw_below_drewN | apply below_drew1 | refine below_set ?_ GE196.out) | exact HB.out)) hb); clear BK196; clear HB; have BK196 := n0_; have HB := n1_; clear n0_ n1_; (try clear hb); (try clear hb2); (try clear hk); (try clear hi)))
                  have n0_ := Aside0.mk (blk_drew BK196.out)
                  have n1_ := Aside0.mk (below_drew1 HB.out)
                  clear BK196
                  clear HB
                  have BK196 := n0_
                  have HB := n1_
                  clear n0_ n1_
                  refine start_ (n := 9) (S := fun w' => w'.cell? ⟨gb196, 0, none⟩ = some (.int .i64 a0_0) ∧ w'.cell? ⟨gb196, 1, none⟩ = some (.int .i64 a0_1) ∧ w'.cell? ⟨gb196, 2, none⟩ = some (.int .i64 a0_2) ∧ w'.cell? ⟨gb196, 3, none⟩ = some (.int .i64 a0_3) ∧ w'.cell? ⟨gb196, 4, none⟩ = some (.int .i64 a0_4) ∧ w'.cell? ⟨gb196, 5, none⟩ = some (.int .i64 a0_5)) (ds := []) #[false, false, false, false, false, false, false, false, false] (by kernel_rfl) rfl rfl ⟨(blk_cell BK196.out 0).trans rfl, (blk_cell BK196.out 1).trans rfl, (blk_cell BK196.out 2).trans rfl, (blk_cell BK196.out 3).trans rfl, (blk_cell BK196.out 4).trans rfl, (blk_cell BK196.out 5).trans rfl⟩ (fun hHeld => ?_); refine with_tabW impl_FormatOp.tab3 impl_FormatOp.bits3 (fun HT_ HW_ => ?_)
                  generalize w37.drew = w38 at BK196 HB hHeld ⊢
                  refine pure_ (i := 0) (N := some 7) (v := ?_) (a' := ?_) #[true, false, false, false, false, false, false, false, false] rfl rfl (any_of HT_.out (by kernel_rfl)) (fun _ _ _ h => h) (Or.inl ⟨by rfl, ?_⟩) ?_ ?_
                  rotate_left
                  · intro w'
                    go_simp
                    with_reducible rfl
                  rotate_left
                  · simp only [Act.put, List.setIfInBounds_toArray, List.set_cons_zero, List.set_cons_succ, i64_w, i32_w]
                    rfl
                  refine pure_ (i := 4) (N := some 11) (v := ?_) (a' := ?_) #[true, false, false, false, true, false, false, false, false] rfl rfl (any_of HT_.out (by kernel_rfl)) (fun _ _ _ h => h) (Or.inl ⟨by rfl, ?_⟩) ?_ ?_
                  rotate_left
                  · intro w'
                    go_simp
                    with_reducible rfl
                  rotate_left
                  · simp only [Act.put, List.setIfInBounds_toArray, List.set_cons_zero, List.set_cons_succ, i64_w, i32_w]
                    rfl
                  refine take_ (i := 1) (N := some 8) (v := ?_) (a' := ?_) #[true, true, false, false, true, false, false, false, false] rfl rfl (take_ofW HT_.out HW_.out (by kernel_rfl)) (fun _ _ _ h => h) (Or.inl ⟨by rfl, ?_⟩) hHeld ?_ ?_
                  rotate_left
                  · rintro w' ⟨s0, s1, s2, s3, s4, s5⟩
                    go_simp
                    with_reducible rfl
                  rotate_left
                  · simp only [Act.put, List.setIfInBounds_toArray, List.set_cons_zero, List.set_cons_succ, i64_w, i32_w]
                    rfl
                  refine take_ (i := 5) (N := some 12) (v := ?_) (a' := ?_) #[true, true, false, false, true, true, false, false, false] rfl rfl (take_ofW HT_.out HW_.out (by kernel_rfl)) (fun _ _ _ h => h) (Or.inl ⟨by rfl, ?_⟩) hHeld ?_ ?_
                  rotate_left
                  · rintro w' ⟨s0, s1, s2, s3, s4, s5⟩
                    go_simp
                    with_reducible rfl
                  rotate_left
                  · simp only [Act.put, List.setIfInBounds_toArray, List.set_cons_zero, List.set_cons_succ, i64_w, i32_w]
                    rfl
                  refine one_ (i := 2) (N := some 9) #[true, true, true, false, true, true, false, false, false] rfl rfl (one_of HT_.out (by kernel_rfl)) (by decide) (fun K hK => ?_)
                  refine goes_ Tryd.func84 (by kernel_rfl) rfl #[.int .i64 a0_0] (by rfl) rfl rfl (by (try simp only [List.map_toArray, List.map_cons, List.map_nil]); first | done | rfl | (simp only [List.length_drop, List.length_take]; rfl)) ?_
                  with_reducible refine (impl_FormatInt.calls a0_0 t198 _ ?side1 A4.out).mono ?_
                  (case side1 => exact WF_below hWF (by repeat (first | (with_reducible first | exact HB.out | apply below_alloc | apply pw_below_drewN | apply below_drew1 | refine below_set ?_ GE196.out) | exact HB.out)))
                  rintro e w39 ⟨rfl, hb⟩
                  refine ⟨_, rfl, ?_⟩
                  have n0_ := Aside0.mk (blk_below (g := gb196) (o := .cells #[.int .i64 a0_0, .int .i64 a0_1, .int .i64 a0_2, .int .i64 a0_3, .int .i64 a0_4, .int .i64 a0_5] 42 (0, 0)) (by (with_reducible repeat (first | refine blk_drewN ?_ _ | refine blk_drew ?_ | refine blk_alloc ?_ _)); exact BK196.out) hb)
                  have n1_ := Aside0.mk (below_step (by repeat (first | (with_reducible first | exact HB.out | apply below_alloc | apply pw_below_drewN | apply below_drew1 | refine below_set ?_ GE196.out) | exact HB.out)) hb)
                  clear BK196
                  clear HB
                  have BK196 := n0_
                  have HB := n1_
                  clear n0_ n1_
                  (try clear hb)
                  (try clear hb2)
                  (try clear hk)
                  (try clear hi)
                  refine hK.out _ _ ⟨(blk_cell BK196.out 0).trans rfl, (blk_cell BK196.out 1).trans rfl, (blk_cell BK196.out 2).trans rfl, (blk_cell BK196.out 3).trans rfl, (blk_cell BK196.out 4).trans rfl, (blk_cell BK196.out 5).trans rfl⟩ (fun hHeld => ?_)
                  clear hK K
                  refine norm_ (a' := ?_) ?_ ?_
                  rotate_left
                  · show Act.put _ (some 9) _ = _
                    simp only [Act.put, List.setIfInBounds_toArray, List.set_cons_zero, List.set_cons_succ, i64_w, i32_w]
                    rfl
                  refine pure_ (i := 3) (N := some 10) (v := ?_) (a' := ?_) #[true, true, true, true, true, true, false, false, false] rfl rfl (any_of HT_.out (by kernel_rfl)) (fun _ _ _ h => h) (Or.inl ⟨by rfl, ?_⟩) ?_ ?_
                  rotate_left
                  · intro w'
                    go_simp
                    with_reducible rfl
                  rotate_left
                  · simp only [Act.put, List.setIfInBounds_toArray, List.set_cons_zero, List.set_cons_succ, i64_w, i32_w]
                    rfl
                  refine one_ (i := 6) (N := some 13) #[true, true, true, true, true, true, true, false, false] rfl rfl (one_of HT_.out (by kernel_rfl)) (by decide) (fun K hK => ?_)
                  refine goes_ Tryd.func84 (by kernel_rfl) rfl #[.int .i64 a0_1] (by rfl) rfl rfl (by (try simp only [List.map_toArray, List.map_cons, List.map_nil]); first | done | rfl | (simp only [List.length_drop, List.length_take]; rfl)) ?_
                  with_reducible refine (impl_FormatInt.calls a0_1 t199 _ ?side1 A6.out).mono ?_
                  (case side1 => exact WF_below hWF (by repeat (first | (with_reducible first | exact HB.out | apply below_alloc | apply pw_below_drewN | apply below_drew1 | refine below_set ?_ GE196.out) | exact HB.out)))
                  rintro e w40 ⟨rfl, hb⟩
                  refine ⟨_, rfl, ?_⟩
                  have n0_ := Aside0.mk (blk_below (g := gb196) (o := .cells #[.int .i64 a0_0, .int .i64 a0_1, .int .i64 a0_2, .int .i64 a0_3, .int .i64 a0_4, .int .i64 a0_5] 42 (0, 0)) (by (with_reducible repeat (first | refine blk_drewN ?_ _ | refine blk_drew ?_ | refine blk_alloc ?_ _)); exact BK196.out) hb)
                  have n1_ := Aside0.mk (below_step (by repeat (first | (with_reducible first | exact HB.out | apply below_alloc | apply pw_below_drewN | apply below_drew1 | refine below_set ?_ GE196.out) | exact HB.out)) hb)
                  clear BK196
                  clear HB
                  have BK196 := n0_
                  have HB := n1_
                  clear n0_ n1_
                  (try clear hb)
                  (try clear hb2)
                  (try clear hk)
                  (try clear hi)
                  refine hK.out _ _ ⟨(blk_cell BK196.out 0).trans rfl, (blk_cell BK196.out 1).trans rfl, (blk_cell BK196.out 2).trans rfl, (blk_cell BK196.out 3).trans rfl, (blk_cell BK196.out 4).trans rfl, (blk_cell BK196.out 5).trans rfl⟩ (fun hHeld => ?_)
                  clear hK K
                  refine norm_ (a' := ?_) ?_ ?_
                  rotate_left
                  · show Act.put _ (some 13) _ = _
                    simp only [Act.put, List.setIfInBounds_toArray, List.set_cons_zero, List.set_cons_succ, i64_w, i32_w]
                    rfl
                  refine pure_ (i := 7) (N := some 14) (v := ?_) (a' := ?_) #[true, true, true, true, true, true, true, true, false] rfl rfl (any_of HT_.out (by kernel_rfl)) (fun _ _ _ h => h) (Or.inl ⟨by rfl, ?_⟩) ?_ ?_
                  rotate_left
                  · intro w'
                    go_simp
                    with_reducible rfl
                  rotate_left
                  · simp only [Act.put, List.setIfInBounds_toArray, List.set_cons_zero, List.set_cons_succ, i64_w, i32_w]
                    rfl
                  refine pure_ (i := 8) (N := some 3) (v := ?_) (a' := ?_) #[true, true, true, true, true, true, true, true, true] rfl rfl (any_of HT_.out (by kernel_rfl)) (fun _ _ _ h => h) (Or.inl ⟨by rfl, ?_⟩) ?_ ?_
                  rotate_left
                  · intro w'
                    go_simp
                    with_reducible rfl
                  rotate_left
                  · simp only [Act.put, List.setIfInBounds_toArray, List.set_cons_zero, List.set_cons_succ, i64_w, i32_w]
                    rfl
                  refine done_ (done_of HT_.out (by kernel_rfl)) ?_
                  have hcz41_0 : w40.cell? ⟨gb196, 0, none⟩ = some (.int .i64 a0_0) := (blk_cell BK196.out 0).trans rfl
                  have hcz41_1 : w40.cell? ⟨gb196, 1, none⟩ = some (.int .i64 a0_1) := (blk_cell BK196.out 1).trans rfl
                  have hcz41_2 : w40.cell? ⟨gb196, 2, none⟩ = some (.int .i64 a0_2) := (blk_cell BK196.out 2).trans rfl
                  have hcz41_3 : w40.cell? ⟨gb196, 3, none⟩ = some (.int .i64 a0_3) := (blk_cell BK196.out 3).trans rfl
                  have hcz41_4 : w40.cell? ⟨gb196, 4, none⟩ = some (.int .i64 a0_4) := (blk_cell BK196.out 4).trans rfl
                  have hcz41_5 : w40.cell? ⟨gb196, 5, none⟩ = some (.int .i64 a0_5) := (blk_cell BK196.out 5).trans rfl
                  have hfz41_0 := blk_frozen BK196.out 0
                  have hfz41_1 := blk_frozen BK196.out 1
                  have hfz41_2 := blk_frozen BK196.out 2
                  have hfz41_3 := blk_frozen BK196.out 3
                  have hfz41_4 := blk_frozen BK196.out 4
                  have hfz41_5 := blk_frozen BK196.out 5
                  try go_wp2
                  have n0_ := Aside0.mk (blk_drew BK196.out)
                  have n1_ := Aside0.mk (below_drew1 HB.out)
                  clear BK196
                  clear HB
                  have BK196 := n0_
                  have HB := n1_
                  clear n0_ n1_
                  refine start_ (n := 12) (S := fun w' => w'.cell? ⟨gb196, 0, none⟩ = some (.int .i64 a0_0) ∧ w'.cell? ⟨gb196, 1, none⟩ = some (.int .i64 a0_1) ∧ w'.cell? ⟨gb196, 2, none⟩ = some (.int .i64 a0_2) ∧ w'.cell? ⟨gb196, 3, none⟩ = some (.int .i64 a0_3) ∧ w'.cell? ⟨gb196, 4, none⟩ = some (.int .i64 a0_4) ∧ w'.cell? ⟨gb196, 5, none⟩ = some (.int .i64 a0_5)) (ds := []) #[false, false, false, false, false, false, false, false, false, false, false, false] (by kernel_rfl) rfl rfl ⟨(blk_cell BK196.out 0).trans rfl, (blk_cell BK196.out 1).trans rfl, (blk_cell BK196.out 2).trans rfl, (blk_cell BK196.out 3).trans rfl, (blk_cell BK196.out 4).trans rfl, (blk_cell BK196.out 5).trans rfl⟩ (fun hHeld => ?_); refine with_tabW impl_FormatOp.tab6 impl_FormatOp.bits6 (fun HT_ HW_ => ?_)
                  generalize w40.drew = w42 at BK196 HB hHeld ⊢
                  refine pure_ (i := 0) (N := some 34) (v := ?_) (a' := ?_) #[true, false, false, false, false, false, false, false, false, false, false, false] rfl rfl (any_of HT_.out (by kernel_rfl)) (fun _ _ _ h => h) (Or.inl ⟨by rfl, ?_⟩) ?_ ?_
                  rotate_left
                  · intro w'
                    go_simp
                    with_reducible rfl
                  rotate_left
                  · simp only [Act.put, List.setIfInBounds_toArray, List.set_cons_zero, List.set_cons_succ, i64_w, i32_w]
                    rfl
                  refine pure_ (i := 1) (N := some 35) (v := ?_) (a' := ?_) #[true, true, false, false, false, false, false, false, false, false, false, false] rfl rfl (any_of HT_.out (by kernel_rfl)) (fun _ _ _ h => h) (Or.inl ⟨by rfl, ?_⟩) ?_ ?_
                  rotate_left
                  · intro w'
                    go_simp
                    with_reducible rfl
                  rotate_left
                  · simp only [Act.put, List.setIfInBounds_toArray, List.set_cons_zero, List.set_cons_succ, i64_w, i32_w]
                    rfl
                  refine pure_ (i := 2) (N := some 36) (v := ?_) (a' := ?_) #[true, true, true, false, false, false, false, false, false, false, false, false] rfl rfl (any_of HT_.out (by kernel_rfl)) (fun _ _ _ h => h) (Or.inl ⟨by rfl, ?_⟩) ?_ ?_
                  rotate_left
                  · intro w'
                    go_simp
                    with_reducible rfl
                  rotate_left
                  · simp only [Act.put, List.setIfInBounds_toArray, List.set_cons_zero, List.set_cons_succ, i64_w, i32_w]
                    rfl
                  refine pure_ (i := 7) (N := some 41) (v := ?_) (a' := ?_) #[true, true, true, false, false, false, false, true, false, false, false, false] rfl rfl (any_of HT_.out (by kernel_rfl)) (fun _ _ _ h => h) (Or.inl ⟨by rfl, ?_⟩) ?_ ?_
                  rotate_left
                  · intro w'
                    go_simp
                    with_reducible rfl
                  rotate_left
                  · simp only [Act.put, List.setIfInBounds_toArray, List.set_cons_zero, List.set_cons_succ, i64_w, i32_w]
                    rfl
                  refine take_ (i := 3) (N := some 37) (v := ?_) (a' := ?_) #[true, true, true, true, false, false, false, true, false, false, false, false] rfl rfl (take_ofW HT_.out HW_.out (by kernel_rfl)) (fun _ _ _ h => h) (Or.inl ⟨by rfl, ?_⟩) hHeld ?_ ?_
                  rotate_left
                  · rintro w' ⟨s0, s1, s2, s3, s4, s5⟩
                    go_simp
                    with_reducible rfl
                  rotate_left
                  · simp only [Act.put, List.setIfInBounds_toArray, List.set_cons_zero, List.set_cons_succ, i64_w, i32_w]
                    rfl
                  refine take_ (i := 8) (N := some 42) (v := ?_) (a' := ?_) #[true, true, true, true, false, false, false, true, true, false, false, false] rfl rfl (take_ofW HT_.out HW_.out (by kernel_rfl)) (fun _ _ _ h => h) (Or.inl ⟨by rfl, ?_⟩) hHeld ?_ ?_
                  rotate_left
                  · rintro w' ⟨s0, s1, s2, s3, s4, s5⟩
                    go_simp
                    with_reducible rfl
                  rotate_left
                  · simp only [Act.put, List.setIfInBounds_toArray, List.set_cons_zero, List.set_cons_succ, i64_w, i32_w]
                    rfl
                  refine one_ (i := 4) (N := some 38) #[true, true, true, true, true, false, false, true, true, false, false, false] rfl rfl (one_of HT_.out (by kernel_rfl)) (by decide) (fun K hK => ?_)
                  refine goes_ Tryd.func84 (by kernel_rfl) rfl #[.int .i64 a0_3] (by rfl) rfl rfl (by (try simp only [List.map_toArray, List.map_cons, List.map_nil]); first | done | rfl | (simp only [List.length_drop, List.length_take]; rfl)) ?_
                  with_reducible refine (impl_FormatInt.calls a0_3 t203 _ ?side1 A30.out).mono ?_
                  (case side1 => exact WF_below hWF (by repeat (first | (with_reducible first | exact HB.out | apply below_alloc | apply pw_below_drewN | apply below_drew1 | refine below_set ?_ GE196.out) | exact HB.out)))
                  rintro e w43 ⟨rfl, hb⟩
                  refine ⟨_, rfl, ?_⟩
                  have n0_ := Aside0.mk (blk_below (g := gb196) (o := .cells #[.int .i64 a0_0, .int .i64 a0_1, .int .i64 a0_2, .int .i64 a0_3, .int .i64 a0_4, .int .i64 a0_5] 42 (0, 0)) (by (with_reducible repeat (first | refine blk_drewN ?_ _ | refine blk_drew ?_ | refine blk_alloc ?_ _)); exact BK196.out) hb)
                  have n1_ := Aside0.mk (below_step (by repeat (first | (with_reducible first | exact HB.out | apply below_alloc | apply pw_below_drewN | apply below_drew1 | refine below_set ?_ GE196.out) | exact HB.out)) hb)
                  clear BK196
                  clear HB
                  have BK196 := n0_
                  have HB := n1_
                  clear n0_ n1_
                  (try clear hb)
                  (try clear hb2)
                  (try clear hk)
                  (try clear hi)
                  refine hK.out _ _ ⟨(blk_cell BK196.out 0).trans rfl, (blk_cell BK196.out 1).trans rfl, (blk_cell BK196.out 2).trans rfl, (blk_cell BK196.out 3).trans rfl, (blk_cell BK196.out 4).trans rfl, (blk_cell BK196.out 5).trans rfl⟩ (fun hHeld => ?_)
                  clear hK K
                  refine norm_ (a' := ?_) ?_ ?_
                  rotate_left
                  · show Act.put _ (some 38) _ = _
                    simp only [Act.put, List.setIfInBounds_toArray, List.set_cons_zero, List.set_cons_succ, i64_w, i32_w]
                    rfl
                  refine pure_ (i := 5) (N := some 39) (v := ?_) (a' := ?_) #[true, true, true, true, true, true, false, true, true, false, false, false] rfl rfl (any_of HT_.out (by kernel_rfl)) (fun _ _ _ h => h) (Or.inl ⟨by rfl, ?_⟩) ?_ ?_
                  rotate_left
                  · intro w'
                    go_simp
                    with_reducible rfl
                  rotate_left
                  · simp only [Act.put, List.setIfInBounds_toArray, List.set_cons_zero, List.set_cons_succ, i64_w, i32_w]
                    rfl
                  refine pure_ (i := 6) (N := some 40) (v := ?_) (a' := ?_) #[true, true, true, true, true, true, true, true, true, false, false, false] rfl rfl (any_of HT_.out (by kernel_rfl)) (fun _ _ _ h => h) (Or.inl ⟨by rfl, ?_⟩) ?_ ?_
                  rotate_left
                  · intro w'
                    go_simp
                    with_reducible rfl
                  rotate_left
                  · simp only [Act.put, List.setIfInBounds_toArray, List.set_cons_zero, List.set_cons_succ, i64_w, i32_w]
                    rfl
                  refine one_ (i := 9) (N := some 43) #[true, true, true, true, true, true, true, true, true, true, false, false] rfl rfl (one_of HT_.out (by kernel_rfl)) (by decide) (fun K hK => ?_)
                  refine goes_ Tryd.func84 (by kernel_rfl) rfl #[.int .i64 a0_5] (by rfl) rfl rfl (by (try simp only [List.map_toArray, List.map_cons, List.map_nil]); first | done | rfl | (simp only [List.length_drop, List.length_take]; rfl)) ?_
                  with_reducible refine (impl_FormatInt.calls a0_5 t204 _ ?side1 A33.out).mono ?_
                  (case side1 => exact WF_below hWF (by repeat (first | (with_reducible first | exact HB.out | apply below_alloc | apply pw_below_drewN | apply below_drew1 | refine below_set ?_ GE196.out) | exact HB.out)))
                  rintro e w44 ⟨rfl, hb⟩
                  refine ⟨_, rfl, ?_⟩
                  have n0_ := Aside0.mk (blk_below (g := gb196) (o := .cells #[.int .i64 a0_0, .int .i64 a0_1, .int .i64 a0_2, .int .i64 a0_3, .int .i64 a0_4, .int .i64 a0_5] 42 (0, 0)) (by (with_reducible repeat (first | refine blk_drewN ?_ _ | refine blk_drew ?_ | refine blk_alloc ?_ _)); exact BK196.out) hb)
                  have n1_ := Aside0.mk (below_step (by repeat (first | (with_reducible first | exact HB.out | apply below_alloc | apply pw_below_drewN | apply below_drew1 | refine below_set ?_ GE196.out) | exact HB.out)) hb)
                  clear BK196
                  clear HB
                  have BK196 := n0_
                  have HB := n1_
                  clear n0_ n1_
                  (try clear hb)
                  (try clear hb2)
                  (try clear hk)
                  (try clear hi)
                  refine hK.out _ _ ⟨(blk_cell BK196.out 0).trans rfl, (blk_cell BK196.out 1).trans rfl, (blk_cell BK196.out 2).trans rfl, (blk_cell BK196.out 3).trans rfl, (blk_cell BK196.out 4).trans rfl, (blk_cell BK196.out 5).trans rfl⟩ (fun hHeld => ?_)
                  clear hK K
                  refine norm_ (a' := ?_) ?_ ?_
                  rotate_left
                  · show Act.put _ (some 43) _ = _
                    simp only [Act.put, List.setIfInBounds_toArray, List.set_cons_zero, List.set_cons_succ, i64_w, i32_w]
                    rfl
                  refine pure_ (i := 10) (N := some 44) (v := ?_) (a' := ?_) #[true, true, true, true, true, true, true, true, true, true, true, false] rfl rfl (any_of HT_.out (by kernel_rfl)) (fun _ _ _ h => h) (Or.inl ⟨by rfl, ?_⟩) ?_ ?_
                  rotate_left
                  · intro w'
                    go_simp
                    with_reducible rfl
                  rotate_left
                  · simp only [Act.put, List.setIfInBounds_toArray, List.set_cons_zero, List.set_cons_succ, i64_w, i32_w]
                    rfl
                  refine pure_ (i := 11) (N := some 2) (v := ?_) (a' := ?_) #[true, true, true, true, true, true, true, true, true, true, true, true] rfl rfl (any_of HT_.out (by kernel_rfl)) (fun _ _ _ h => h) (Or.inl ⟨by rfl, ?_⟩) ?_ ?_
                  rotate_left
                  · intro w'
                    go_simp
                    with_reducible rfl
                  rotate_left
                  · simp only [Act.put, List.setIfInBounds_toArray, List.set_cons_zero, List.set_cons_succ, i64_w, i32_w]
                    rfl
                  refine done_ (done_of HT_.out (by kernel_rfl)) ?_
                  try go_wp2
                  go_ret
                  exact ⟨by first | rfl | (simp [errW_none, errW_some] <;> rfl) | (simp [*, errW_none, errW_some] <;> rfl), by repeat (first | (with_reducible first | exact HB.out | apply below_alloc | apply pw_below_drewN | apply below_drew1 | refine below_set ?_ GE196.out) | exact HB.out)⟩
                · rw [if_neg c34] at H
                  exact absurd H (by simp)
              · rw [if_neg c32] at H
                exact absurd H (by simp)
            · rw [if_neg c31] at H
              exact absurd H (by simp)
          · rw [if_neg c29] at H
            exact absurd H (by simp)
      · rw [if_neg c7] at H
        exact absurd H (by simp)
    · rw [if_neg c5] at H
      exact absurd H (by simp)
  · replace c3 := Bool.eq_false_iff.mpr c3
    subst c3
    have H1 : (some (⟨#[]⟩ : ByteArray)) = some r := by first | (rw [if_neg (show ¬ (false = true) by decide)] at H; exact H) | rfl
    clear H
    have H := H1
    clear H1
    obtain rfl := Option.some.inj H
    go_enter Tryd.func60, Tryd.ntmps60
    go_wp2_with (first | ((with_reducible refine gate_dst (N := 1) rfl ?_); refine box_event ?hg (N := 1) ?hd (cs := #[.int .i64 a0_0, .int .i64 a0_1, .int .i64 a0_2, .int .i64 a0_3, .int .i64 a0_4, .int .i64 a0_5]) (t := 42) ?hr ?_; (case hd => rfl); (case hg => rfl); (case hr => first | (go_simp; done) | (go_simp; rfl)); intro gb196 hg w45 hbox hb; have n0_ := Aside0.mk (below_step (by repeat (first | (with_reducible first | exact HB.out | apply below_alloc | apply pw_below_drewN | apply below_drew1) | exact HB.out)) hb); have n1_ := Aside0.mk (hbox); have n2_ := Aside0.mk ((by rw [hg]; exact (below_size (by repeat (first | (with_reducible first | exact HB.out | apply below_alloc | apply pw_below_drewN | apply below_drew1) | exact HB.out))) : w.heap.size ≤ gb196)); have n3_ := Aside0.mk ((by rw [hg]; exact (below_size (by repeat (first | (with_reducible first | exact HB.out | apply below_alloc | apply pw_below_drewN | apply below_drew1) | exact HB.out))) : w.heap.size ≤ gb196)); clear HB; have HB := n0_; have BK196 := n1_; have GW196 := n2_; have GE196 := n3_; clear n0_ n1_ n2_ n3_; clear hb hbox hg; have hcz46_0 : w45.cell? ⟨gb196, 0, none⟩ = some (.int .i64 a0_0) := (blk_cell BK196.out 0).trans rfl; have hcz46_1 : w45.cell? ⟨gb196, 1, none⟩ = some (.int .i64 a0_1) := (blk_cell BK196.out 1).trans rfl; have hcz46_2 : w45.cell? ⟨gb196, 2, none⟩ = some (.int .i64 a0_2) := (blk_cell BK196.out 2).trans rfl; have hcz46_3 : w45.cell? ⟨gb196, 3, none⟩ = some (.int .i64 a0_3) := (blk_cell BK196.out 3).trans rfl; have hcz46_4 : w45.cell? ⟨gb196, 4, none⟩ = some (.int .i64 a0_4) := (blk_cell BK196.out 4).trans rfl; have hcz46_5 : w45.cell? ⟨gb196, 5, none⟩ = some (.int .i64 a0_5) := (blk_cell BK196.out 5).trans rfl; have hfz46_0 := blk_frozen BK196.out 0; have hfz46_1 := blk_frozen BK196.out 1; have hfz46_2 := blk_frozen BK196.out 2; have hfz46_3 := blk_frozen BK196.out 3; have hfz46_4 := blk_frozen BK196.out 4; have hfz46_5 := blk_frozen BK196.out 5) | ((with_reducible refine gate_callee (f := 92) rfl ?_); refine goesL_ (some 5) rfl rfl Tryd.func92 (by kernel_rfl) rfl #[.agg #[.int .i64 a0_0, .int .i64 a0_1, .int .i64 a0_2, .int .i64 a0_3, .int .i64 a0_4, .int .i64 a0_5]] rfl (by (try simp only [List.map_toArray, List.map_cons, List.map_nil]); first | done | rfl | (simp only [List.length_drop, List.length_take]; rfl)) ?_; (with_reducible refine (impl_IsValidOp.calls a0_0 a0_1 a0_2 a0_3 a0_4 a0_5 false _ A2.out).mono ?_); rintro e w47 ⟨rfl, hb⟩; refine ⟨_, rfl, ?_⟩; have n0_ := Aside0.mk (blk_below (g := gb196) (o := .cells #[.int .i64 a0_0, .int .i64 a0_1, .int .i64 a0_2, .int .i64 a0_3, .int .i64 a0_4, .int .i64 a0_5] 42 (0, 0)) (by (with_reducible repeat (first | refine blk_drewN ?_ _ | refine blk_drew ?_ | refine blk_alloc ?_ _)); exact BK196.out) hb); have n1_ := Aside0.mk (below_step (by repeat (first | (with_reducible first | exact HB.out | apply below_alloc | apply pw_below_drewN | apply below_drew1 | refine below_set ?_ GE196.out) | exact HB.out)) hb); clear BK196; clear HB; have BK196 := n0_; have HB := n1_; clear n0_ n1_; (try clear hb); (try clear hb2); (try clear hk); (try clear hi)))
    go_ret
    exact ⟨by first | rfl | (simp [errW_none, errW_some] <;> rfl) | (simp [*, errW_none, errW_some] <;> rfl), by repeat (first | (with_reducible first | exact HB.out | apply below_alloc | apply pw_below_drewN | apply below_drew1 | refine below_set ?_ GE196.out) | exact HB.out)⟩

end Go.Proofs.YtijjfnkblfimfaaDoor.O
