/- Go functions as Lean functions, and the proof that the code comes to them: written by a program of this session out of the translation. -/
import Derived.Test.YtcikahnmiiichaaDoorK0
import Derived.Test.YtcikahnmiiichaaDoorK1
import Derived.Test.YtcikahnmiiichaaDoorK7
namespace Go.Proofs.YtcikahnmiiichaaDoor.K
open List renaming setIfInBounds_toArray → vZ, set_cons_zero → yA, set_cons_succ → yB
open Go.World renaming block_lt_of_cell? → yF
open Go.Proofs.YtcikahnmiiichaaDoor.Given
open Go.RowKit Go.Proofs.YtcikahnmiiichaaDoorW.PrintWords Go.Proofs.YtcikahnmiiichaaDoorW.PrintLast Go.Proofs.YtcikahnmiiichaaDoorW.PrintMore
attribute [local go_sem] max2_int min2_int max_two min_two vW vV max_four min_four   -- for this text's walks alone
set_option linter.unusedVariables false
set_option linter.unusedSimpArgs false

/-! ### spec_FormatOp: function 91 -/
def spec_FormatOp.f (k : Nat) (a0_0 : Int) (a0_1 : Int) (a0_2 : Int) (a0_3 : Int) (a0_4 : Int) (a0_5 : Int) : Option (ByteArray) := (spec_IsValidOp.f a0_0 a0_1 a0_2 a0_3 a0_4 a0_5).bind fun t248 => (if t248 = true then ((spec_FormatInt.f k a0_0).bind fun t249 => (if t249.size + 1 ≤ 9223372036854775807 then ((spec_FormatInt.f k a0_1).bind fun t250 => (if (t249 ++ (⟨#[46]⟩ : ByteArray)).size + t250.size ≤ 9223372036854775807 then (if ((t249 ++ (⟨#[46]⟩ : ByteArray)) ++ t250).size + 1 ≤ 9223372036854775807 then (if a0_2 = 1 then (if (((t249 ++ (⟨#[46]⟩ : ByteArray)) ++ t250) ++ (⟨#[32]⟩ : ByteArray)).size + 6 ≤ 9223372036854775807 then ((spec_FormatInt.f k a0_3).bind fun t251 => (if ((((t249 ++ (⟨#[46]⟩ : ByteArray)) ++ t250) ++ (⟨#[32]⟩ : ByteArray)) ++ (⟨#[119, 114, 105, 116, 101, 32]⟩ : ByteArray)).size + t251.size ≤ 9223372036854775807 then (if (((((t249 ++ (⟨#[46]⟩ : ByteArray)) ++ t250) ++ (⟨#[32]⟩ : ByteArray)) ++ (⟨#[119, 114, 105, 116, 101, 32]⟩ : ByteArray)) ++ t251).size + 1 ≤ 9223372036854775807 then ((spec_FormatInt.f k a0_5).bind fun t252 => (if ((((((t249 ++ (⟨#[46]⟩ : ByteArray)) ++ t250) ++ (⟨#[32]⟩ : ByteArray)) ++ (⟨#[119, 114, 105, 116, 101, 32]⟩ : ByteArray)) ++ t251) ++ (⟨#[32]⟩ : ByteArray)).size + t252.size ≤ 9223372036854775807 then (some (((((((t249 ++ (⟨#[46]⟩ : ByteArray)) ++ t250) ++ (⟨#[32]⟩ : ByteArray)) ++ (⟨#[119, 114, 105, 116, 101, 32]⟩ : ByteArray)) ++ t251) ++ (⟨#[32]⟩ : ByteArray)) ++ t252)) else (none))) else (none)) else (none))) else (none)) else (if (((t249 ++ (⟨#[46]⟩ : ByteArray)) ++ t250) ++ (⟨#[32]⟩ : ByteArray)).size + 5 ≤ 9223372036854775807 then ((spec_FormatInt.f k a0_3).bind fun t253 => (if ((((t249 ++ (⟨#[46]⟩ : ByteArray)) ++ t250) ++ (⟨#[32]⟩ : ByteArray)) ++ (⟨#[115, 119, 97, 112, 32]⟩ : ByteArray)).size + t253.size ≤ 9223372036854775807 then (if (((((t249 ++ (⟨#[46]⟩ : ByteArray)) ++ t250) ++ (⟨#[32]⟩ : ByteArray)) ++ (⟨#[115, 119, 97, 112, 32]⟩ : ByteArray)) ++ t253).size + 1 ≤ 9223372036854775807 then ((spec_FormatInt.f k a0_4).bind fun t254 => (if ((((((t249 ++ (⟨#[46]⟩ : ByteArray)) ++ t250) ++ (⟨#[32]⟩ : ByteArray)) ++ (⟨#[115, 119, 97, 112, 32]⟩ : ByteArray)) ++ t253) ++ (⟨#[32]⟩ : ByteArray)).size + t254.size ≤ 9223372036854775807 then (if (((((((t249 ++ (⟨#[46]⟩ : ByteArray)) ++ t250) ++ (⟨#[32]⟩ : ByteArray)) ++ (⟨#[115, 119, 97, 112, 32]⟩ : ByteArray)) ++ t253) ++ (⟨#[32]⟩ : ByteArray)) ++ t254).size + 1 ≤ 9223372036854775807 then ((spec_FormatInt.f k a0_5).bind fun t255 => (if ((((((((t249 ++ (⟨#[46]⟩ : ByteArray)) ++ t250) ++ (⟨#[32]⟩ : ByteArray)) ++ (⟨#[115, 119, 97, 112, 32]⟩ : ByteArray)) ++ t253) ++ (⟨#[32]⟩ : ByteArray)) ++ t254) ++ (⟨#[32]⟩ : ByteArray)).size + t255.size ≤ 9223372036854775807 then (some (((((((((t249 ++ (⟨#[46]⟩ : ByteArray)) ++ t250) ++ (⟨#[32]⟩ : ByteArray)) ++ (⟨#[115, 119, 97, 112, 32]⟩ : ByteArray)) ++ t253) ++ (⟨#[32]⟩ : ByteArray)) ++ t254) ++ (⟨#[32]⟩ : ByteArray)) ++ t255)) else (none))) else (none)) else (none))) else (none)) else (none))) else (none))) else (none)) else (none))) else (none))) else (some (⟨#[]⟩ : ByteArray)))
theorem spec_FormatOp.mono : ∀ a0 a1 a2 a3 a4 a5 k, uA (spec_FormatOp.f k a0 a1 a2 a3 a4 a5) (spec_FormatOp.f (k + 1) a0 a1 a2 a3 a4 a5) := by
 intro a0 a1 a2 a3 a4 a5 k
 unfold spec_FormatOp.f
 repeat' first
   | (with_reducible exact spec_FormatInt.mono _ _)
   | (with_reducible exact uA.refl _)
   | (with_reducible exact uA.none _)
   | (with_reducible refine uA.vA ?_ ?_)
   | (with_reducible refine uA.bind ?_ (fun _ => ?_))
   | exact uA.none _
   | refine uA.vA ?_ ?_
   | refine uA.bind ?_ (fun _ => ?_)
def spec_FormatOp.T3 : Bool × List (List Nat × List Nat) := (true, [([], []), ([0], [0]), ([1], [1]), ([2], [2]), ([], []), ([4], [4]), ([5, 2], [5]), ([3, 6], [3, 6]), ([7], [7]), ([8, 6, 0, 1, 2, 3, 4, 5, 6, 7, 8], [8])])
def spec_FormatOp.B3 : List Nat := [0, 1, 3, 7, 0, 16, 55, 127, 255, 511]
theorem spec_FormatOp.tab3 : rtab .any (opsOf Tryd.f91 3) = spec_FormatOp.T3 := by kernel_rfl
theorem spec_FormatOp.bits3 : waitsOk spec_FormatOp.T3.2 spec_FormatOp.B3 = true := by kernel_rfl
def spec_FormatOp.T5 : Bool × List (List Nat × List Nat) := (true, [([], []), ([0], [0]), ([], []), ([2], [2]), ([3], [3]), ([1, 4], [1, 4]), ([5], [5]), ([], []), ([7], [7]), ([8, 4], [8]), ([6, 9], [6, 9]), ([10, 9, 0, 1, 2, 3, 4, 5, 6, 7, 8, 9, 10], [10])])
def spec_FormatOp.B5 : List Nat := [0, 1, 0, 4, 12, 31, 63, 0, 128, 412, 1023, 2047]
theorem spec_FormatOp.tab5 : rtab .any (opsOf Tryd.f91 5) = spec_FormatOp.T5 := by kernel_rfl
theorem spec_FormatOp.bits5 : waitsOk spec_FormatOp.T5.2 spec_FormatOp.B5 = true := by kernel_rfl
def spec_FormatOp.T6 : Bool × List (List Nat × List Nat) := (true, [([], []), ([0], [0]), ([], []), ([2], [2]), ([3], [3]), ([1, 4], [1, 4]), ([5], [5]), ([], []), ([7], [7]), ([8, 4], [8]), ([6, 9], [6, 9]), ([10], [10]), ([], []), ([12], [12]), ([13, 9], [13]), ([11, 14], [11, 14]), ([15, 14, 0, 1, 2, 3, 4, 5, 6, 7, 8, 9, 10, 11, 12, 13, 14, 15], [15])])
def spec_FormatOp.B6 : List Nat := [0, 1, 0, 4, 12, 31, 63, 0, 128, 412, 1023, 2047, 0, 4096, 13212, 32767, 65535]
theorem spec_FormatOp.tab6 : rtab .any (opsOf Tryd.f91 6) = spec_FormatOp.T6 := by kernel_rfl
theorem spec_FormatOp.bits6 : waitsOk spec_FormatOp.T6.2 spec_FormatOp.B6 = true := by kernel_rfl
set_option maxHeartbeats 8000000 in
set_option maxRecDepth 100000 in
theorem spec_FormatOp.calls (k : Nat) (a0_0 : Int) (a0_1 : Int) (a0_2 : Int) (a0_3 : Int) (a0_4 : Int) (a0_5 : Int) (r : ByteArray) (w : World) (h : spec_FormatOp.f k a0_0 a0_1 a0_2 a0_3 a0_4 a0_5 = some r) :
  Calls Tryd.prog 91 #[.agg #[.int .i64 a0_0, .int .i64 a0_1, .int .i64 a0_2, .int .i64 a0_3, .int .i64 a0_4, .int .i64 a0_5]] w fun e w' => e = .returned (.string r) ∧ Below w.heap.size w w' := by
 have hu64 := Tryd.underlying64
 have HB := Aside0.mk (Below.refl w.heap.size w)
 have H : ((spec_IsValidOp.f a0_0 a0_1 a0_2 a0_3 a0_4 a0_5).bind fun t248 => (if t248 = true then ((spec_FormatInt.f k a0_0).bind fun t249 => (if t249.size + 1 ≤ 9223372036854775807 then ((spec_FormatInt.f k a0_1).bind fun t250 => (if (t249 ++ (⟨#[46]⟩ : ByteArray)).size + t250.size ≤ 9223372036854775807 then (if ((t249 ++ (⟨#[46]⟩ : ByteArray)) ++ t250).size + 1 ≤ 9223372036854775807 then (if a0_2 = 1 then (if (((t249 ++ (⟨#[46]⟩ : ByteArray)) ++ t250) ++ (⟨#[32]⟩ : ByteArray)).size + 6 ≤ 9223372036854775807 then ((spec_FormatInt.f k a0_3).bind fun t251 => (if ((((t249 ++ (⟨#[46]⟩ : ByteArray)) ++ t250) ++ (⟨#[32]⟩ : ByteArray)) ++ (⟨#[119, 114, 105, 116, 101, 32]⟩ : ByteArray)).size + t251.size ≤ 9223372036854775807 then (if (((((t249 ++ (⟨#[46]⟩ : ByteArray)) ++ t250) ++ (⟨#[32]⟩ : ByteArray)) ++ (⟨#[119, 114, 105, 116, 101, 32]⟩ : ByteArray)) ++ t251).size + 1 ≤ 9223372036854775807 then ((spec_FormatInt.f k a0_5).bind fun t252 => (if ((((((t249 ++ (⟨#[46]⟩ : ByteArray)) ++ t250) ++ (⟨#[32]⟩ : ByteArray)) ++ (⟨#[119, 114, 105, 116, 101, 32]⟩ : ByteArray)) ++ t251) ++ (⟨#[32]⟩ : ByteArray)).size + t252.size ≤ 9223372036854775807 then (some (((((((t249 ++ (⟨#[46]⟩ : ByteArray)) ++ t250) ++ (⟨#[32]⟩ : ByteArray)) ++ (⟨#[119, 114, 105, 116, 101, 32]⟩ : ByteArray)) ++ t251) ++ (⟨#[32]⟩ : ByteArray)) ++ t252)) else (none))) else (none)) else (none))) else (none)) else (if (((t249 ++ (⟨#[46]⟩ : ByteArray)) ++ t250) ++ (⟨#[32]⟩ : ByteArray)).size + 5 ≤ 9223372036854775807 then ((spec_FormatInt.f k a0_3).bind fun t253 => (if ((((t249 ++ (⟨#[46]⟩ : ByteArray)) ++ t250) ++ (⟨#[32]⟩ : ByteArray)) ++ (⟨#[115, 119, 97, 112, 32]⟩ : ByteArray)).size + t253.size ≤ 9223372036854775807 then (if (((((t249 ++ (⟨#[46]⟩ : ByteArray)) ++ t250) ++ (⟨#[32]⟩ : ByteArray)) ++ (⟨#[115, 119, 97, 112, 32]⟩ : ByteArray)) ++ t253).size + 1 ≤ 9223372036854775807 then ((spec_FormatInt.f k a0_4).bind fun t254 => (if ((((((t249 ++ (⟨#[46]⟩ : ByteArray)) ++ t250) ++ (⟨#[32]⟩ : ByteArray)) ++ (⟨#[115, 119, 97, 112, 32]⟩ : ByteArray)) ++ t253) ++ (⟨#[32]⟩ : ByteArray)).size + t254.size ≤ 9223372036854775807 then (if (((((((t249 ++ (⟨#[46]⟩ : ByteArray)) ++ t250) ++ (⟨#[32]⟩ : ByteArray)) ++ (⟨#[115, 119, 97, 112, 32]⟩ : ByteArray)) ++ t253) ++ (⟨#[32]⟩ : ByteArray)) ++ t254).size + 1 ≤ 9223372036854775807 then ((spec_FormatInt.f k a0_5).bind fun t255 => (if ((((((((t249 ++ (⟨#[46]⟩ : ByteArray)) ++ t250) ++ (⟨#[32]⟩ : ByteArray)) ++ (⟨#[115, 119, 97, 112, 32]⟩ : ByteArray)) ++ t253) ++ (⟨#[32]⟩ : ByteArray)) ++ t254) ++ (⟨#[32]⟩ : ByteArray)).size + t255.size ≤ 9223372036854775807 then (some (((((((((t249 ++ (⟨#[46]⟩ : ByteArray)) ++ t250) ++ (⟨#[32]⟩ : ByteArray)) ++ (⟨#[115, 119, 97, 112, 32]⟩ : ByteArray)) ++ t253) ++ (⟨#[32]⟩ : ByteArray)) ++ t254) ++ (⟨#[32]⟩ : ByteArray)) ++ t255)) else (none))) else (none)) else (none))) else (none)) else (none))) else (none))) else (none)) else (none))) else (none))) else (some (⟨#[]⟩ : ByteArray)))) = some r := h
 clear h
 replace H := Option.bind_eq_some_iff.mp H
 obtain ⟨t248, A20, H⟩ := H
 try dsimp only at H
 have A2 := Aside0.mk A20
 clear A20
 go_enter Tryd.func91, Tryd.ntmps91
 go_wp2_with (first | ((with_reducible refine uQ (N := 1) rfl ?_); refine bxe 1 #[.int .i64 a0_0, .int .i64 a0_1, .int .i64 a0_2, .int .i64 a0_3, .int .i64 a0_4, .int .i64 a0_5] 64 ?_; intro gb247 hg w46 hbox hb; have BK247 := Aside0.mk (hbox); have GW247 := tGe HB hg; have GE247 := tGe HB hg; replace HB := uH HB hb; clear hb hbox hg; obtain ⟨hcz47_0, hcz47_1, hcz47_2, hcz47_3, hcz47_4, hcz47_5, hfz47_0, hfz47_1, hfz47_2, hfz47_3, hfz47_4, hfz47_5⟩ := cz6 BK247; refine ?roundEnd))
 case roundEnd =>
 by_cases c3 : t248 = true
 rotate_left
 ·replace c3 := Bool.eq_false_iff.mpr c3
  subst c3
  try rw [if_neg (show ¬ (false = true) by decide)] at H
  obtain rfl := Option.some.inj H
  go_wp2_with (first | ((with_reducible refine uB (f := 49) rfl ?_); refine uL (some 5) Tryd.func49 #[.agg #[.int .i64 a0_0, .int .i64 a0_1, .int .i64 a0_2, .int .i64 a0_3, .int .i64 a0_4, .int .i64 a0_5]] ?_; (with_reducible refine (spec_IsValidOp.calls a0_0 a0_1 a0_2 a0_3 a0_4 a0_5 false _ A2.out).mono ?_); rintro e w48 ⟨rfl, hb⟩; refine ⟨_, rfl, ?_⟩; replace BK247 := vI BK247 hb; replace HB := uH HB hb; (try clear hb)))
  go_ret
  exact ⟨cq5, cq2⟩
 subst c3
 try rw [if_pos rfl] at H
 replace H := Option.bind_eq_some_iff.mp H
 obtain ⟨t249, A40, H⟩ := H
 try dsimp only at H
 have A4 := Aside0.mk A40
 clear A40
 go_wp2_with (first | ((with_reducible refine uB (f := 49) rfl ?_); refine uL (some 5) Tryd.func49 #[.agg #[.int .i64 a0_0, .int .i64 a0_1, .int .i64 a0_2, .int .i64 a0_3, .int .i64 a0_4, .int .i64 a0_5]] ?_; (with_reducible refine (spec_IsValidOp.calls a0_0 a0_1 a0_2 a0_3 a0_4 a0_5 true _ A2.out).mono ?_); rintro e w18 ⟨rfl, hb⟩; refine ⟨_, rfl, ?_⟩; replace BK247 := vI BK247 hb; replace HB := uH HB hb; (try clear hb); refine ?roundEnd))
 case roundEnd =>
 by_cases c5 : t249.size + 1 ≤ 9223372036854775807
 rotate_left
 ·rw [if_neg c5] at H
  exact absurd H (by simp)
 rw [if_pos c5] at H
 have c5b0 := eq_true c5
 have c5b1 := decide_eq_true c5
 try have c5b2 : (9223372036854775807 < t249.size + 1) = False := eq_false (Nat.not_lt.2 c5)
 replace H := Option.bind_eq_some_iff.mp H
 obtain ⟨t250, A60, H⟩ := H
 try dsimp only at H
 have A6 := Aside0.mk A60
 clear A60
 by_cases c7 : (t249 ++ (⟨#[46]⟩ : ByteArray)).size + t250.size ≤ 9223372036854775807
 rotate_left
 ·rw [if_neg c7] at H
  exact absurd H (by simp)
 rw [if_pos c7] at H
 have c7b0 := eq_true c7
 have c7b1 := decide_eq_true c7
 try have c7b2 : (9223372036854775807 < (t249 ++ (⟨#[46]⟩ : ByteArray)).size + t250.size) = False := eq_false (Nat.not_lt.2 c7)
 have c7b3 : (9223372036854775807 < t249.size + 1 + t250.size) = False := eq_false (Nat.not_lt.2 (by have z_ := c7; (repeat rw [ByteArray.size_append] at z_); exact z_))
 by_cases c8 : ((t249 ++ (⟨#[46]⟩ : ByteArray)) ++ t250).size + 1 ≤ 9223372036854775807
 rotate_left
 ·rw [if_neg c8] at H
  exact absurd H (by simp)
 rw [if_pos c8] at H
 have c8b0 := eq_true c8
 have c8b1 := decide_eq_true c8
 try have c8b2 : (9223372036854775807 < ((t249 ++ (⟨#[46]⟩ : ByteArray)) ++ t250).size + 1) = False := eq_false (Nat.not_lt.2 c8)
 have c8b3 : (9223372036854775807 < t249.size + 1 + t250.size + 1) = False := eq_false (Nat.not_lt.2 (by have z_ := c8; (repeat rw [ByteArray.size_append] at z_); exact z_))
 by_cases c9 : a0_2 = 1
 ·rw [if_pos c9] at H
  have c9b0 := beq_iff_eq.mpr c9
  have c9b1 := bne_eq_false_iff_eq.mpr c9
  clear c9
  by_cases c10 : (((t249 ++ (⟨#[46]⟩ : ByteArray)) ++ t250) ++ (⟨#[32]⟩ : ByteArray)).size + 6 ≤ 9223372036854775807
  rotate_left
  ·rw [if_neg c10] at H
   exact absurd H (by simp)
  rw [if_pos c10] at H
  have c10b0 := eq_true c10
  have c10b1 := decide_eq_true c10
  try have c10b2 : (9223372036854775807 < (((t249 ++ (⟨#[46]⟩ : ByteArray)) ++ t250) ++ (⟨#[32]⟩ : ByteArray)).size + 6) = False := eq_false (Nat.not_lt.2 c10)
  have c10b3 : (9223372036854775807 < t249.size + 1 + t250.size + 1 + 6) = False := eq_false (Nat.not_lt.2 (by have z_ := c10; (repeat rw [ByteArray.size_append] at z_); exact z_))
  replace H := Option.bind_eq_some_iff.mp H
  obtain ⟨t251, A110, H⟩ := H
  try dsimp only at H
  have A11 := Aside0.mk A110
  clear A110
  by_cases c12 : ((((t249 ++ (⟨#[46]⟩ : ByteArray)) ++ t250) ++ (⟨#[32]⟩ : ByteArray)) ++ (⟨#[119, 114, 105, 116, 101, 32]⟩ : ByteArray)).size + t251.size ≤ 9223372036854775807
  rotate_left
  ·rw [if_neg c12] at H
   exact absurd H (by simp)
  rw [if_pos c12] at H
  have c12b0 := eq_true c12
  have c12b1 := decide_eq_true c12
  try have c12b2 : (9223372036854775807 < ((((t249 ++ (⟨#[46]⟩ : ByteArray)) ++ t250) ++ (⟨#[32]⟩ : ByteArray)) ++ (⟨#[119, 114, 105, 116, 101, 32]⟩ : ByteArray)).size + t251.size) = False := eq_false (Nat.not_lt.2 c12)
  have c12b3 : (9223372036854775807 < t249.size + 1 + t250.size + 1 + 6 + t251.size) = False := eq_false (Nat.not_lt.2 (by have z_ := c12; (repeat rw [ByteArray.size_append] at z_); exact z_))
  by_cases c13 : (((((t249 ++ (⟨#[46]⟩ : ByteArray)) ++ t250) ++ (⟨#[32]⟩ : ByteArray)) ++ (⟨#[119, 114, 105, 116, 101, 32]⟩ : ByteArray)) ++ t251).size + 1 ≤ 9223372036854775807
  rotate_left
  ·rw [if_neg c13] at H
   exact absurd H (by simp)
  rw [if_pos c13] at H
  have c13b0 := eq_true c13
  have c13b1 := decide_eq_true c13
  try have c13b2 : (9223372036854775807 < (((((t249 ++ (⟨#[46]⟩ : ByteArray)) ++ t250) ++ (⟨#[32]⟩ : ByteArray)) ++ (⟨#[119, 114, 105, 116, 101, 32]⟩ : ByteArray)) ++ t251).size + 1) = False := eq_false (Nat.not_lt.2 c13)
  have c13b3 : (9223372036854775807 < t249.size + 1 + t250.size + 1 + 6 + t251.size + 1) = False := eq_false (Nat.not_lt.2 (by have z_ := c13; (repeat rw [ByteArray.size_append] at z_); exact z_))
  replace H := Option.bind_eq_some_iff.mp H
  obtain ⟨t252, A140, H⟩ := H
  try dsimp only at H
  have A14 := Aside0.mk A140
  clear A140
  by_cases c15 : ((((((t249 ++ (⟨#[46]⟩ : ByteArray)) ++ t250) ++ (⟨#[32]⟩ : ByteArray)) ++ (⟨#[119, 114, 105, 116, 101, 32]⟩ : ByteArray)) ++ t251) ++ (⟨#[32]⟩ : ByteArray)).size + t252.size ≤ 9223372036854775807
  rotate_left
  ·rw [if_neg c15] at H
   exact absurd H (by simp)
  rw [if_pos c15] at H
  have c15b0 := eq_true c15
  have c15b1 := decide_eq_true c15
  try have c15b2 : (9223372036854775807 < ((((((t249 ++ (⟨#[46]⟩ : ByteArray)) ++ t250) ++ (⟨#[32]⟩ : ByteArray)) ++ (⟨#[119, 114, 105, 116, 101, 32]⟩ : ByteArray)) ++ t251) ++ (⟨#[32]⟩ : ByteArray)).size + t252.size) = False := eq_false (Nat.not_lt.2 c15)
  have c15b3 : (9223372036854775807 < t249.size + 1 + t250.size + 1 + 6 + t251.size + 1 + t252.size) = False := eq_false (Nat.not_lt.2 (by have z_ := c15; (repeat rw [ByteArray.size_append] at z_); exact z_))
  obtain rfl := Option.some.inj H
  try go_wp2
  replace BK247 := Aside0.mk (uE BK247.out)
  replace HB := Aside0.mk (vL HB.out)
  refine start_ (n := 10) (S := fun w' => w'.cell? ⟨gb247, 0, none⟩ = some (.int .i64 a0_0) ∧ w'.cell? ⟨gb247, 1, none⟩ = some (.int .i64 a0_1) ∧ w'.cell? ⟨gb247, 2, none⟩ = some (.int .i64 a0_2) ∧ w'.cell? ⟨gb247, 3, none⟩ = some (.int .i64 a0_3) ∧ w'.cell? ⟨gb247, 4, none⟩ = some (.int .i64 a0_4) ∧ w'.cell? ⟨gb247, 5, none⟩ = some (.int .i64 a0_5)) (ds := []) tb23 (by kernel_rfl) rfl rfl ⟨(uC BK247.out 0).trans rfl, (uC BK247.out 1).trans rfl, (uC BK247.out 2).trans rfl, (uC BK247.out 3).trans rfl, (uC BK247.out 4).trans rfl, (uC BK247.out 5).trans rfl⟩ (fun hHeld => ?_); refine with_tabW spec_FormatOp.tab3 spec_FormatOp.bits3 (fun HT_ HW_ => ?_)
  generalize w18.drew = w19 at BK247 HB hHeld ⊢
  refine uM 0 (some 7) tb52 ?_
  refine uM 4 (some 11) tb55 ?_
  refine takeT 1 (some 8) tb58 ?_
  refine takeT 5 (some 12) tb62 ?_
  refine oneT 2 (some 9) tb67 (fun K hK => ?_)
  refine goesT Tryd.func90 #[.int .i64 a0_0] ?_
  with_reducible refine (spec_FormatInt.calls k a0_0 t249 _ A4.out).mono ?_
  rintro e w20 ⟨rfl, hb⟩
  refine ⟨_, rfl, ?_⟩
  replace BK247 := vI BK247 hb
  replace HB := uH HB hb
  (try clear hb)
  refine hK.out _ _ ⟨(uC BK247.out 0).trans rfl, (uC BK247.out 1).trans rfl, (uC BK247.out 2).trans rfl, (uC BK247.out 3).trans rfl, (uC BK247.out 4).trans rfl, (uC BK247.out 5).trans rfl⟩ (fun hHeld => ?_)
  clear hK K
  refine vH (some 9) ?_
  refine uM 3 (some 10) tb73 ?_
  refine oneT 6 (some 13) tb2 (fun K hK => ?_)
  refine goesT Tryd.func90 #[.int .i64 a0_1] ?_
  with_reducible refine (spec_FormatInt.calls k a0_1 t250 _ A6.out).mono ?_
  rintro e w21 ⟨rfl, hb⟩
  refine ⟨_, rfl, ?_⟩
  replace BK247 := vI BK247 hb
  replace HB := uH HB hb
  (try clear hb)
  refine hK.out _ _ ⟨(uC BK247.out 0).trans rfl, (uC BK247.out 1).trans rfl, (uC BK247.out 2).trans rfl, (uC BK247.out 3).trans rfl, (uC BK247.out 4).trans rfl, (uC BK247.out 5).trans rfl⟩ (fun hHeld => ?_)
  clear hK K
  refine vH (some 13) ?_
  refine uM 7 (some 14) tb28 ?_
  refine uM 8 (some 15) tb29 ?_
  refine uM 9 (some 3) tb30 ?_
  refine done_ (done_of HT_.out (by kernel_rfl)) ?_
  obtain ⟨hcz22_0, hcz22_1, hcz22_2, hcz22_3, hcz22_4, hcz22_5, hfz22_0, hfz22_1, hfz22_2, hfz22_3, hfz22_4, hfz22_5⟩ := cz6 BK247
  try go_wp2
  replace BK247 := Aside0.mk (uE BK247.out)
  replace HB := Aside0.mk (vL HB.out)
  refine start_ (n := 12) (S := fun w' => w'.cell? ⟨gb247, 0, none⟩ = some (.int .i64 a0_0) ∧ w'.cell? ⟨gb247, 1, none⟩ = some (.int .i64 a0_1) ∧ w'.cell? ⟨gb247, 2, none⟩ = some (.int .i64 a0_2) ∧ w'.cell? ⟨gb247, 3, none⟩ = some (.int .i64 a0_3) ∧ w'.cell? ⟨gb247, 4, none⟩ = some (.int .i64 a0_4) ∧ w'.cell? ⟨gb247, 5, none⟩ = some (.int .i64 a0_5)) (ds := []) tb35 (by kernel_rfl) rfl rfl ⟨(uC BK247.out 0).trans rfl, (uC BK247.out 1).trans rfl, (uC BK247.out 2).trans rfl, (uC BK247.out 3).trans rfl, (uC BK247.out 4).trans rfl, (uC BK247.out 5).trans rfl⟩ (fun hHeld => ?_); refine with_tabW spec_FormatOp.tab5 spec_FormatOp.bits5 (fun HT_ HW_ => ?_)
  generalize w21.drew = w23 at BK247 HB hHeld ⊢
  refine uM 0 (some 19) #[true, false, false, false, false, false, false, false, false, false, false, false] ?_
  refine uM 1 (some 20) #[true, true, false, false, false, false, false, false, false, false, false, false] ?_
  refine uM 2 (some 21) #[true, true, true, false, false, false, false, false, false, false, false, false] ?_
  refine uM 7 (some 26) #[true, true, true, false, false, false, false, true, false, false, false, false] ?_
  refine takeT 3 (some 22) #[true, true, true, true, false, false, false, true, false, false, false, false] ?_
  refine takeT 8 (some 27) #[true, true, true, true, false, false, false, true, true, false, false, false] ?_
  refine oneT 4 (some 23) #[true, true, true, true, true, false, false, true, true, false, false, false] (fun K hK => ?_)
  refine goesT Tryd.func90 #[.int .i64 a0_3] ?_
  with_reducible refine (spec_FormatInt.calls k a0_3 t251 _ A11.out).mono ?_
  rintro e w24 ⟨rfl, hb⟩
  refine ⟨_, rfl, ?_⟩
  replace BK247 := vI BK247 hb
  replace HB := uH HB hb
  (try clear hb)
  refine hK.out _ _ ⟨(uC BK247.out 0).trans rfl, (uC BK247.out 1).trans rfl, (uC BK247.out 2).trans rfl, (uC BK247.out 3).trans rfl, (uC BK247.out 4).trans rfl, (uC BK247.out 5).trans rfl⟩ (fun hHeld => ?_)
  clear hK K
  refine vH (some 23) ?_
  refine uM 5 (some 24) #[true, true, true, true, true, true, false, true, true, false, false, false] ?_
  refine uM 6 (some 25) tb39 ?_
  refine oneT 9 (some 28) tb40 (fun K hK => ?_)
  refine goesT Tryd.func90 #[.int .i64 a0_5] ?_
  with_reducible refine (spec_FormatInt.calls k a0_5 t252 _ A14.out).mono ?_
  rintro e w25 ⟨rfl, hb⟩
  refine ⟨_, rfl, ?_⟩
  replace BK247 := vI BK247 hb
  replace HB := uH HB hb
  (try clear hb)
  refine hK.out _ _ ⟨(uC BK247.out 0).trans rfl, (uC BK247.out 1).trans rfl, (uC BK247.out 2).trans rfl, (uC BK247.out 3).trans rfl, (uC BK247.out 4).trans rfl, (uC BK247.out 5).trans rfl⟩ (fun hHeld => ?_)
  clear hK K
  refine vH (some 28) ?_
  refine uM 10 (some 29) tb41 ?_
  refine uM 11 (some 2) tb44 ?_
  refine done_ (done_of HT_.out (by kernel_rfl)) ?_
  try go_wp2
  go_ret
  exact ⟨cq5, cq2⟩
 rw [if_neg c9] at H
 have c9b0 := beq_eq_false_iff_ne.mpr c9
 have c9b1 := bne_iff_ne.mpr c9
 by_cases c26 : (((t249 ++ (⟨#[46]⟩ : ByteArray)) ++ t250) ++ (⟨#[32]⟩ : ByteArray)).size + 5 ≤ 9223372036854775807
 rotate_left
 ·rw [if_neg c26] at H
  exact absurd H (by simp)
 rw [if_pos c26] at H
 have c26b0 := eq_true c26
 have c26b1 := decide_eq_true c26
 try have c26b2 : (9223372036854775807 < (((t249 ++ (⟨#[46]⟩ : ByteArray)) ++ t250) ++ (⟨#[32]⟩ : ByteArray)).size + 5) = False := eq_false (Nat.not_lt.2 c26)
 have c26b3 : (9223372036854775807 < t249.size + 1 + t250.size + 1 + 5) = False := eq_false (Nat.not_lt.2 (by have z_ := c26; (repeat rw [ByteArray.size_append] at z_); exact z_))
 replace H := Option.bind_eq_some_iff.mp H
 obtain ⟨t253, A270, H⟩ := H
 try dsimp only at H
 have A27 := Aside0.mk A270
 clear A270
 by_cases c28 : ((((t249 ++ (⟨#[46]⟩ : ByteArray)) ++ t250) ++ (⟨#[32]⟩ : ByteArray)) ++ (⟨#[115, 119, 97, 112, 32]⟩ : ByteArray)).size + t253.size ≤ 9223372036854775807
 rotate_left
 ·rw [if_neg c28] at H
  exact absurd H (by simp)
 rw [if_pos c28] at H
 have c28b0 := eq_true c28
 have c28b1 := decide_eq_true c28
 try have c28b2 : (9223372036854775807 < ((((t249 ++ (⟨#[46]⟩ : ByteArray)) ++ t250) ++ (⟨#[32]⟩ : ByteArray)) ++ (⟨#[115, 119, 97, 112, 32]⟩ : ByteArray)).size + t253.size) = False := eq_false (Nat.not_lt.2 c28)
 have c28b3 : (9223372036854775807 < t249.size + 1 + t250.size + 1 + 5 + t253.size) = False := eq_false (Nat.not_lt.2 (by have z_ := c28; (repeat rw [ByteArray.size_append] at z_); exact z_))
 by_cases c29 : (((((t249 ++ (⟨#[46]⟩ : ByteArray)) ++ t250) ++ (⟨#[32]⟩ : ByteArray)) ++ (⟨#[115, 119, 97, 112, 32]⟩ : ByteArray)) ++ t253).size + 1 ≤ 9223372036854775807
 rotate_left
 ·rw [if_neg c29] at H
  exact absurd H (by simp)
 rw [if_pos c29] at H
 have c29b0 := eq_true c29
 have c29b1 := decide_eq_true c29
 try have c29b2 : (9223372036854775807 < (((((t249 ++ (⟨#[46]⟩ : ByteArray)) ++ t250) ++ (⟨#[32]⟩ : ByteArray)) ++ (⟨#[115, 119, 97, 112, 32]⟩ : ByteArray)) ++ t253).size + 1) = False := eq_false (Nat.not_lt.2 c29)
 have c29b3 : (9223372036854775807 < t249.size + 1 + t250.size + 1 + 5 + t253.size + 1) = False := eq_false (Nat.not_lt.2 (by have z_ := c29; (repeat rw [ByteArray.size_append] at z_); exact z_))
 replace H := Option.bind_eq_some_iff.mp H
 obtain ⟨t254, A300, H⟩ := H
 try dsimp only at H
 have A30 := Aside0.mk A300
 clear A300
 by_cases c31 : ((((((t249 ++ (⟨#[46]⟩ : ByteArray)) ++ t250) ++ (⟨#[32]⟩ : ByteArray)) ++ (⟨#[115, 119, 97, 112, 32]⟩ : ByteArray)) ++ t253) ++ (⟨#[32]⟩ : ByteArray)).size + t254.size ≤ 9223372036854775807
 rotate_left
 ·rw [if_neg c31] at H
  exact absurd H (by simp)
 rw [if_pos c31] at H
 have c31b0 := eq_true c31
 have c31b1 := decide_eq_true c31
 try have c31b2 : (9223372036854775807 < ((((((t249 ++ (⟨#[46]⟩ : ByteArray)) ++ t250) ++ (⟨#[32]⟩ : ByteArray)) ++ (⟨#[115, 119, 97, 112, 32]⟩ : ByteArray)) ++ t253) ++ (⟨#[32]⟩ : ByteArray)).size + t254.size) = False := eq_false (Nat.not_lt.2 c31)
 have c31b3 : (9223372036854775807 < t249.size + 1 + t250.size + 1 + 5 + t253.size + 1 + t254.size) = False := eq_false (Nat.not_lt.2 (by have z_ := c31; (repeat rw [ByteArray.size_append] at z_); exact z_))
 by_cases c32 : (((((((t249 ++ (⟨#[46]⟩ : ByteArray)) ++ t250) ++ (⟨#[32]⟩ : ByteArray)) ++ (⟨#[115, 119, 97, 112, 32]⟩ : ByteArray)) ++ t253) ++ (⟨#[32]⟩ : ByteArray)) ++ t254).size + 1 ≤ 9223372036854775807
 rotate_left
 ·rw [if_neg c32] at H
  exact absurd H (by simp)
 rw [if_pos c32] at H
 have c32b0 := eq_true c32
 have c32b1 := decide_eq_true c32
 try have c32b2 : (9223372036854775807 < (((((((t249 ++ (⟨#[46]⟩ : ByteArray)) ++ t250) ++ (⟨#[32]⟩ : ByteArray)) ++ (⟨#[115, 119, 97, 112, 32]⟩ : ByteArray)) ++ t253) ++ (⟨#[32]⟩ : ByteArray)) ++ t254).size + 1) = False := eq_false (Nat.not_lt.2 c32)
 have c32b3 : (9223372036854775807 < t249.size + 1 + t250.size + 1 + 5 + t253.size + 1 + t254.size + 1) = False := eq_false (Nat.not_lt.2 (by have z_ := c32; (repeat rw [ByteArray.size_append] at z_); exact z_))
 replace H := Option.bind_eq_some_iff.mp H
 obtain ⟨t255, A330, H⟩ := H
 try dsimp only at H
 have A33 := Aside0.mk A330
 clear A330
 by_cases c34 : ((((((((t249 ++ (⟨#[46]⟩ : ByteArray)) ++ t250) ++ (⟨#[32]⟩ : ByteArray)) ++ (⟨#[115, 119, 97, 112, 32]⟩ : ByteArray)) ++ t253) ++ (⟨#[32]⟩ : ByteArray)) ++ t254) ++ (⟨#[32]⟩ : ByteArray)).size + t255.size ≤ 9223372036854775807
 rotate_left
 ·rw [if_neg c34] at H
  exact absurd H (by simp)
 rw [if_pos c34] at H
 have c34b0 := eq_true c34
 have c34b1 := decide_eq_true c34
 try have c34b2 : (9223372036854775807 < ((((((((t249 ++ (⟨#[46]⟩ : ByteArray)) ++ t250) ++ (⟨#[32]⟩ : ByteArray)) ++ (⟨#[115, 119, 97, 112, 32]⟩ : ByteArray)) ++ t253) ++ (⟨#[32]⟩ : ByteArray)) ++ t254) ++ (⟨#[32]⟩ : ByteArray)).size + t255.size) = False := eq_false (Nat.not_lt.2 c34)
 have c34b3 : (9223372036854775807 < t249.size + 1 + t250.size + 1 + 5 + t253.size + 1 + t254.size + 1 + t255.size) = False := eq_false (Nat.not_lt.2 (by have z_ := c34; (repeat rw [ByteArray.size_append] at z_); exact z_))
 obtain rfl := Option.some.inj H
 try go_wp2
 replace BK247 := Aside0.mk (uE BK247.out)
 replace HB := Aside0.mk (vL HB.out)
 refine start_ (n := 10) (S := fun w' => w'.cell? ⟨gb247, 0, none⟩ = some (.int .i64 a0_0) ∧ w'.cell? ⟨gb247, 1, none⟩ = some (.int .i64 a0_1) ∧ w'.cell? ⟨gb247, 2, none⟩ = some (.int .i64 a0_2) ∧ w'.cell? ⟨gb247, 3, none⟩ = some (.int .i64 a0_3) ∧ w'.cell? ⟨gb247, 4, none⟩ = some (.int .i64 a0_4) ∧ w'.cell? ⟨gb247, 5, none⟩ = some (.int .i64 a0_5)) (ds := []) tb23 (by kernel_rfl) rfl rfl ⟨(uC BK247.out 0).trans rfl, (uC BK247.out 1).trans rfl, (uC BK247.out 2).trans rfl, (uC BK247.out 3).trans rfl, (uC BK247.out 4).trans rfl, (uC BK247.out 5).trans rfl⟩ (fun hHeld => ?_); refine with_tabW spec_FormatOp.tab3 spec_FormatOp.bits3 (fun HT_ HW_ => ?_)
 generalize w18.drew = w38 at BK247 HB hHeld ⊢
 refine uM 0 (some 7) tb52 ?_
 refine uM 4 (some 11) tb55 ?_
 refine takeT 1 (some 8) tb58 ?_
 refine takeT 5 (some 12) tb62 ?_
 refine oneT 2 (some 9) tb67 (fun K hK => ?_)
 refine goesT Tryd.func90 #[.int .i64 a0_0] ?_
 with_reducible refine (spec_FormatInt.calls k a0_0 t249 _ A4.out).mono ?_
 rintro e w39 ⟨rfl, hb⟩
 refine ⟨_, rfl, ?_⟩
 replace BK247 := vI BK247 hb
 replace HB := uH HB hb
 (try clear hb)
 refine hK.out _ _ ⟨(uC BK247.out 0).trans rfl, (uC BK247.out 1).trans rfl, (uC BK247.out 2).trans rfl, (uC BK247.out 3).trans rfl, (uC BK247.out 4).trans rfl, (uC BK247.out 5).trans rfl⟩ (fun hHeld => ?_)
 clear hK K
 refine vH (some 9) ?_
 refine uM 3 (some 10) tb73 ?_
 refine oneT 6 (some 13) tb2 (fun K hK => ?_)
 refine goesT Tryd.func90 #[.int .i64 a0_1] ?_
 with_reducible refine (spec_FormatInt.calls k a0_1 t250 _ A6.out).mono ?_
 rintro e w40 ⟨rfl, hb⟩
 refine ⟨_, rfl, ?_⟩
 replace BK247 := vI BK247 hb
 replace HB := uH HB hb
 (try clear hb)
 refine hK.out _ _ ⟨(uC BK247.out 0).trans rfl, (uC BK247.out 1).trans rfl, (uC BK247.out 2).trans rfl, (uC BK247.out 3).trans rfl, (uC BK247.out 4).trans rfl, (uC BK247.out 5).trans rfl⟩ (fun hHeld => ?_)
 clear hK K
 refine vH (some 13) ?_
 refine uM 7 (some 14) tb28 ?_
 refine uM 8 (some 15) tb29 ?_
 refine uM 9 (some 3) tb30 ?_
 refine done_ (done_of HT_.out (by kernel_rfl)) ?_
 obtain ⟨hcz41_0, hcz41_1, hcz41_2, hcz41_3, hcz41_4, hcz41_5, hfz41_0, hfz41_1, hfz41_2, hfz41_3, hfz41_4, hfz41_5⟩ := cz6 BK247
 try go_wp2
 replace BK247 := Aside0.mk (uE BK247.out)
 replace HB := Aside0.mk (vL HB.out)
 refine start_ (n := 17) (S := fun w' => w'.cell? ⟨gb247, 0, none⟩ = some (.int .i64 a0_0) ∧ w'.cell? ⟨gb247, 1, none⟩ = some (.int .i64 a0_1) ∧ w'.cell? ⟨gb247, 2, none⟩ = some (.int .i64 a0_2) ∧ w'.cell? ⟨gb247, 3, none⟩ = some (.int .i64 a0_3) ∧ w'.cell? ⟨gb247, 4, none⟩ = some (.int .i64 a0_4) ∧ w'.cell? ⟨gb247, 5, none⟩ = some (.int .i64 a0_5)) (ds := []) tb3 (by kernel_rfl) rfl rfl ⟨(uC BK247.out 0).trans rfl, (uC BK247.out 1).trans rfl, (uC BK247.out 2).trans rfl, (uC BK247.out 3).trans rfl, (uC BK247.out 4).trans rfl, (uC BK247.out 5).trans rfl⟩ (fun hHeld => ?_); refine with_tabW spec_FormatOp.tab6 spec_FormatOp.bits6 (fun HT_ HW_ => ?_)
 generalize w40.drew = w42 at BK247 HB hHeld ⊢
 refine uM 0 (some 30) tb4 ?_
 refine uM 1 (some 31) tb5 ?_
 refine uM 2 (some 32) tb6 ?_
 refine uM 7 (some 37) #[true, true, true, false, false, false, false, true, false, false, false, false, false, false, false, false, false] ?_
 refine uM 12 (some 42) #[true, true, true, false, false, false, false, true, false, false, false, false, true, false, false, false, false] ?_
 refine takeT 3 (some 33) #[true, true, true, true, false, false, false, true, false, false, false, false, true, false, false, false, false] ?_
 refine takeT 8 (some 38) #[true, true, true, true, false, false, false, true, true, false, false, false, true, false, false, false, false] ?_
 refine takeT 13 (some 43) #[true, true, true, true, false, false, false, true, true, false, false, false, true, true, false, false, false] ?_
 refine oneT 4 (some 34) #[true, true, true, true, true, false, false, true, true, false, false, false, true, true, false, false, false] (fun K hK => ?_)
 refine goesT Tryd.func90 #[.int .i64 a0_3] ?_
 with_reducible refine (spec_FormatInt.calls k a0_3 t253 _ A27.out).mono ?_
 rintro e w43 ⟨rfl, hb⟩
 refine ⟨_, rfl, ?_⟩
 replace BK247 := vI BK247 hb
 replace HB := uH HB hb
 (try clear hb)
 refine hK.out _ _ ⟨(uC BK247.out 0).trans rfl, (uC BK247.out 1).trans rfl, (uC BK247.out 2).trans rfl, (uC BK247.out 3).trans rfl, (uC BK247.out 4).trans rfl, (uC BK247.out 5).trans rfl⟩ (fun hHeld => ?_)
 clear hK K
 refine vH (some 34) ?_
 refine uM 5 (some 35) #[true, true, true, true, true, true, false, true, true, false, false, false, true, true, false, false, false] ?_
 refine uM 6 (some 36) #[true, true, true, true, true, true, true, true, true, false, false, false, true, true, false, false, false] ?_
 refine oneT 9 (some 39) #[true, true, true, true, true, true, true, true, true, true, false, false, true, true, false, false, false] (fun K hK => ?_)
 refine goesT Tryd.func90 #[.int .i64 a0_4] ?_
 with_reducible refine (spec_FormatInt.calls k a0_4 t254 _ A30.out).mono ?_
 rintro e w44 ⟨rfl, hb⟩
 refine ⟨_, rfl, ?_⟩
 replace BK247 := vI BK247 hb
 replace HB := uH HB hb
 (try clear hb)
 refine hK.out _ _ ⟨(uC BK247.out 0).trans rfl, (uC BK247.out 1).trans rfl, (uC BK247.out 2).trans rfl, (uC BK247.out 3).trans rfl, (uC BK247.out 4).trans rfl, (uC BK247.out 5).trans rfl⟩ (fun hHeld => ?_)
 clear hK K
 refine vH (some 39) ?_
 refine uM 10 (some 40) #[true, true, true, true, true, true, true, true, true, true, true, false, true, true, false, false, false] ?_
 refine uM 11 (some 41) tb7 ?_
 refine oneT 14 (some 44) tb8 (fun K hK => ?_)
 refine goesT Tryd.func90 #[.int .i64 a0_5] ?_
 with_reducible refine (spec_FormatInt.calls k a0_5 t255 _ A33.out).mono ?_
 rintro e w45 ⟨rfl, hb⟩
 refine ⟨_, rfl, ?_⟩
 replace BK247 := vI BK247 hb
 replace HB := uH HB hb
 (try clear hb)
 refine hK.out _ _ ⟨(uC BK247.out 0).trans rfl, (uC BK247.out 1).trans rfl, (uC BK247.out 2).trans rfl, (uC BK247.out 3).trans rfl, (uC BK247.out 4).trans rfl, (uC BK247.out 5).trans rfl⟩ (fun hHeld => ?_)
 clear hK K
 refine vH (some 44) ?_
 refine uM 15 (some 45) tb9 ?_
 refine uM 16 (some 2) tb10 ?_
 refine done_ (done_of HT_.out (by kernel_rfl)) ?_
 try go_wp2
 go_ret
 exact ⟨cq5, cq2⟩

end Go.Proofs.YtcikahnmiiichaaDoor.K
