/- Go functions as Lean functions, and the proof that the code comes to them: written by a program of this session out of the translation. -/
import Derived.Test.YtcikahnmiiichaaDoorL0
import Derived.Test.YtcikahnmiiichaaDoorL1
import Derived.Test.YtcikahnmiiichaaDoorL2
namespace Go.Proofs.YtcikahnmiiichaaDoor.L
open List renaming setIfInBounds_toArray → vD, set_cons_zero → vE, set_cons_succ → vF
open Go.World renaming block_lt_of_cell? → vJ
open Go.Proofs.YtcikahnmiiichaaDoor.Given
open Go.RowKit Go.Proofs.YtcikahnmiiichaaDoorW.PrintWords Go.Proofs.YtcikahnmiiichaaDoorW.PrintLast Go.Proofs.YtcikahnmiiichaaDoorW.PrintMore
attribute [local go_sem] max2_int min2_int max_two min_two max_three min_three max_four min_four   -- for this text's walks alone
set_option linter.unusedVariables false
set_option linter.unusedSimpArgs false

/-! ### spec_FormatOp: function 91 -/
def spec_FormatOp.f (k : Nat) (a0_0 : Int) (a0_1 : Int) (a0_2 : Int) (a0_3 : Int) (a0_4 : Int) (a0_5 : Int) : Option (ByteArray) := (spec_IsValidOp.f a0_0 a0_1 a0_2 a0_3 a0_4 a0_5).bind fun t115 => (if t115 = true then ((spec_FormatInt.f k a0_0).bind fun t116 => (if t116.size + 1 ≤ 9223372036854775807 then ((spec_FormatInt.f k a0_1).bind fun t117 => (if (t116 ++ (⟨#[46]⟩ : ByteArray)).size + t117.size ≤ 9223372036854775807 then (if ((t116 ++ (⟨#[46]⟩ : ByteArray)) ++ t117).size + 1 ≤ 9223372036854775807 then (if a0_2 = 1 then (if (((t116 ++ (⟨#[46]⟩ : ByteArray)) ++ t117) ++ (⟨#[32]⟩ : ByteArray)).size + 6 ≤ 9223372036854775807 then ((spec_FormatInt.f k a0_3).bind fun t118 => (if ((((t116 ++ (⟨#[46]⟩ : ByteArray)) ++ t117) ++ (⟨#[32]⟩ : ByteArray)) ++ (⟨#[119, 114, 105, 116, 101, 32]⟩ : ByteArray)).size + t118.size ≤ 9223372036854775807 then (if (((((t116 ++ (⟨#[46]⟩ : ByteArray)) ++ t117) ++ (⟨#[32]⟩ : ByteArray)) ++ (⟨#[119, 114, 105, 116, 101, 32]⟩ : ByteArray)) ++ t118).size + 1 ≤ 9223372036854775807 then ((spec_FormatInt.f k a0_5).bind fun t119 => (if ((((((t116 ++ (⟨#[46]⟩ : ByteArray)) ++ t117) ++ (⟨#[32]⟩ : ByteArray)) ++ (⟨#[119, 114, 105, 116, 101, 32]⟩ : ByteArray)) ++ t118) ++ (⟨#[32]⟩ : ByteArray)).size + t119.size ≤ 9223372036854775807 then (some (((((((t116 ++ (⟨#[46]⟩ : ByteArray)) ++ t117) ++ (⟨#[32]⟩ : ByteArray)) ++ (⟨#[119, 114, 105, 116, 101, 32]⟩ : ByteArray)) ++ t118) ++ (⟨#[32]⟩ : ByteArray)) ++ t119)) else (none))) else (none)) else (none))) else (none)) else (if (((t116 ++ (⟨#[46]⟩ : ByteArray)) ++ t117) ++ (⟨#[32]⟩ : ByteArray)).size + 5 ≤ 9223372036854775807 then ((spec_FormatInt.f k a0_3).bind fun t120 => (if ((((t116 ++ (⟨#[46]⟩ : ByteArray)) ++ t117) ++ (⟨#[32]⟩ : ByteArray)) ++ (⟨#[115, 119, 97, 112, 32]⟩ : ByteArray)).size + t120.size ≤ 9223372036854775807 then (if (((((t116 ++ (⟨#[46]⟩ : ByteArray)) ++ t117) ++ (⟨#[32]⟩ : ByteArray)) ++ (⟨#[115, 119, 97, 112, 32]⟩ : ByteArray)) ++ t120).size + 1 ≤ 9223372036854775807 then ((spec_FormatInt.f k a0_4).bind fun t121 => (if ((((((t116 ++ (⟨#[46]⟩ : ByteArray)) ++ t117) ++ (⟨#[32]⟩ : ByteArray)) ++ (⟨#[115, 119, 97, 112, 32]⟩ : ByteArray)) ++ t120) ++ (⟨#[32]⟩ : ByteArray)).size + t121.size ≤ 9223372036854775807 then (if (((((((t116 ++ (⟨#[46]⟩ : ByteArray)) ++ t117) ++ (⟨#[32]⟩ : ByteArray)) ++ (⟨#[115, 119, 97, 112, 32]⟩ : ByteArray)) ++ t120) ++ (⟨#[32]⟩ : ByteArray)) ++ t121).size + 1 ≤ 9223372036854775807 then ((spec_FormatInt.f k a0_5).bind fun t122 => (if ((((((((t116 ++ (⟨#[46]⟩ : ByteArray)) ++ t117) ++ (⟨#[32]⟩ : ByteArray)) ++ (⟨#[115, 119, 97, 112, 32]⟩ : ByteArray)) ++ t120) ++ (⟨#[32]⟩ : ByteArray)) ++ t121) ++ (⟨#[32]⟩ : ByteArray)).size + t122.size ≤ 9223372036854775807 then (some (((((((((t116 ++ (⟨#[46]⟩ : ByteArray)) ++ t117) ++ (⟨#[32]⟩ : ByteArray)) ++ (⟨#[115, 119, 97, 112, 32]⟩ : ByteArray)) ++ t120) ++ (⟨#[32]⟩ : ByteArray)) ++ t121) ++ (⟨#[32]⟩ : ByteArray)) ++ t122)) else (none))) else (none)) else (none))) else (none)) else (none))) else (none))) else (none)) else (none))) else (none))) else (some (⟨#[]⟩ : ByteArray)))
theorem spec_FormatOp.mono : ∀ a0 a1 a2 a3 a4 a5 k, uE (spec_FormatOp.f k a0 a1 a2 a3 a4 a5) (spec_FormatOp.f (k + 1) a0 a1 a2 a3 a4 a5) := by
  intro a0 a1 a2 a3 a4 a5 k
  unfold spec_FormatOp.f
  repeat' first
      | (with_reducible exact spec_FormatInt.mono _ _)
      | (with_reducible exact uE.refl _)
      | (with_reducible exact uE.none _)
      | (with_reducible refine uE.ite ?_ ?_)
      | (with_reducible refine uE.bind ?_ (fun _ => ?_))
      | exact uE.none _
      | refine uE.ite ?_ ?_
      | refine uE.bind ?_ (fun _ => ?_)
def spec_FormatOp.T3 : Bool × List (List Nat × List Nat) := (true, [([], []), ([0], [0]), ([1], [1]), ([2], [2]), ([], []), ([4], [4]), ([5, 2], [5]), ([3, 6], [3, 6]), ([7], [7]), ([8, 6, 0, 1, 2, 3, 4, 5, 6, 7, 8], [8])])
def spec_FormatOp.B3 : List Nat := [0, 1, 3, 7, 0, 16, 55, 127, 255, 511]
theorem spec_FormatOp.tab3 : rtab .any (opsOf Tryd.f91 3) = spec_FormatOp.T3 := by kernel_rfl
theorem spec_FormatOp.bits3 : waitsOk spec_FormatOp.T3.2 spec_FormatOp.B3 = true := by kernel_rfl
def spec_FormatOp.T5 : Bool × List (List Nat × List Nat) := (true, [([], []), ([0], [0]), ([], []), ([2], [2]), ([3], [3]), ([1, 4], [1, 4]), ([5], [5]), ([], []), ([7], [7]), ([8, 4], [8]), ([6, 9], [6, 9]), ([10, 9, 0, 1, 2, 3, 4, 5, 6, 7, 8, 9, 10], [10])])
def spec_FormatOp.B5 : List Nat := [0, 1, 0, 4, 12, 31, 63, 0, 128, 412, 1023, 2047]
theorem spec_FormatOp.tab5 : rtab .any (opsOf Tryd.f91 5) = spec_FormatOp.T5 := by kernel_rfl
theorem spec_FormatOp.bits5 : waitsOk spec_FormatOp.T5.2 spec_FormatOp.B5 = true := by kernel_rfl
def spec_FormatOp.T6 : Bool × List (List Nat × List Nat) := (true, [([], []), ([0], [0]), ([], []), ([2], [2]), ([3], [3]), ([1, 4], [1, 4]), ([5], [5]), ([], []), ([7], [7]), ([8, 4], [8]), ([6, 9], [6, 9]), ([10], [10]), ([], []), ([12], [12]), ([13, 9], [13]), ([11, 14], [11, 14]), ([15, 14, 0, 1, 2, 3, 4, 5, 6, 7, 8, 9, 10, 11, 12, 13, 14, 15], [15])])
def spec_FormatOp.B6 : List Nat := [0, 1, 0, 4, 12, 31, 63, 0, 128, 412, 1023, 2047, 0, 4096, 13212, 32767, 65535]
theorem spec_FormatOp.tab6 : rtab .any (opsOf Tryd.f91 6) = spec_FormatOp.T6 := by kernel_rfl
theorem spec_FormatOp.bits6 : waitsOk spec_FormatOp.T6.2 spec_FormatOp.B6 = true := by kernel_rfl
set_option maxHeartbeats 8000000 in
set_option maxRecDepth 100000 in
theorem spec_FormatOp.calls (k : Nat) (a0_0 : Int) (a0_1 : Int) (a0_2 : Int) (a0_3 : Int) (a0_4 : Int) (a0_5 : Int) (r : ByteArray) (w : World) (h : spec_FormatOp.f k a0_0 a0_1 a0_2 a0_3 a0_4 a0_5 = some r) :
    Calls Tryd.prog 91 #[.agg #[.int .i64 a0_0, .int .i64 a0_1, .int .i64 a0_2, .int .i64 a0_3, .int .i64 a0_4, .int .i64 a0_5]] w fun e w' => e = .returned (.string r) ∧ Below w.heap.size w w' := by
  have hu64 := Tryd.underlying64
  have HB := Aside0.mk (Below.refl w.heap.size w)
  have H : ((spec_IsValidOp.f a0_0 a0_1 a0_2 a0_3 a0_4 a0_5).bind fun t115 => (if t115 = true then ((spec_FormatInt.f k a0_0).bind fun t116 => (if t116.size + 1 ≤ 9223372036854775807 then ((spec_FormatInt.f k a0_1).bind fun t117 => (if (t116 ++ (⟨#[46]⟩ : ByteArray)).size + t117.size ≤ 9223372036854775807 then (if ((t116 ++ (⟨#[46]⟩ : ByteArray)) ++ t117).size + 1 ≤ 9223372036854775807 then (if a0_2 = 1 then (if (((t116 ++ (⟨#[46]⟩ : ByteArray)) ++ t117) ++ (⟨#[32]⟩ : ByteArray)).size + 6 ≤ 9223372036854775807 then ((spec_FormatInt.f k a0_3).bind fun t118 => (if ((((t116 ++ (⟨#[46]⟩ : ByteArray)) ++ t117) ++ (⟨#[32]⟩ : ByteArray)) ++ (⟨#[119, 114, 105, 116, 101, 32]⟩ : ByteArray)).size + t118.size ≤ 9223372036854775807 then (if (((((t116 ++ (⟨#[46]⟩ : ByteArray)) ++ t117) ++ (⟨#[32]⟩ : ByteArray)) ++ (⟨#[119, 114, 105, 116, 101, 32]⟩ : ByteArray)) ++ t118).size + 1 ≤ 9223372036854775807 then ((spec_FormatInt.f k a0_5).bind fun t119 => (if ((((((t116 ++ (⟨#[46]⟩ : ByteArray)) ++ t117) ++ (⟨#[32]⟩ : ByteArray)) ++ (⟨#[119, 114, 105, 116, 101, 32]⟩ : ByteArray)) ++ t118) ++ (⟨#[32]⟩ : ByteArray)).size + t119.size ≤ 9223372036854775807 then (some (((((((t116 ++ (⟨#[46]⟩ : ByteArray)) ++ t117) ++ (⟨#[32]⟩ : ByteArray)) ++ (⟨#[119, 114, 105, 116, 101, 32]⟩ : ByteArray)) ++ t118) ++ (⟨#[32]⟩ : ByteArray)) ++ t119)) else (none))) else (none)) else (none))) else (none)) else (if (((t116 ++ (⟨#[46]⟩ : ByteArray)) ++ t117) ++ (⟨#[32]⟩ : ByteArray)).size + 5 ≤ 9223372036854775807 then ((spec_FormatInt.f k a0_3).bind fun t120 => (if ((((t116 ++ (⟨#[46]⟩ : ByteArray)) ++ t117) ++ (⟨#[32]⟩ : ByteArray)) ++ (⟨#[115, 119, 97, 112, 32]⟩ : ByteArray)).size + t120.size ≤ 9223372036854775807 then (if (((((t116 ++ (⟨#[46]⟩ : ByteArray)) ++ t117) ++ (⟨#[32]⟩ : ByteArray)) ++ (⟨#[115, 119, 97, 112, 32]⟩ : ByteArray)) ++ t120).size + 1 ≤ 9223372036854775807 then ((spec_FormatInt.f k a0_4).bind fun t121 => (if ((((((t116 ++ (⟨#[46]⟩ : ByteArray)) ++ t117) ++ (⟨#[32]⟩ : ByteArray)) ++ (⟨#[115, 119, 97, 112, 32]⟩ : ByteArray)) ++ t120) ++ (⟨#[32]⟩ : ByteArray)).size + t121.size ≤ 9223372036854775807 then (if (((((((t116 ++ (⟨#[46]⟩ : ByteArray)) ++ t117) ++ (⟨#[32]⟩ : ByteArray)) ++ (⟨#[115, 119, 97, 112, 32]⟩ : ByteArray)) ++ t120) ++ (⟨#[32]⟩ : ByteArray)) ++ t121).size + 1 ≤ 9223372036854775807 then ((spec_FormatInt.f k a0_5).bind fun t122 => (if ((((((((t116 ++ (⟨#[46]⟩ : ByteArray)) ++ t117) ++ (⟨#[32]⟩ : ByteArray)) ++ (⟨#[115, 119, 97, 112, 32]⟩ : ByteArray)) ++ t120) ++ (⟨#[32]⟩ : ByteArray)) ++ t121) ++ (⟨#[32]⟩ : ByteArray)).size + t122.size ≤ 9223372036854775807 then (some (((((((((t116 ++ (⟨#[46]⟩ : ByteArray)) ++ t117) ++ (⟨#[32]⟩ : ByteArray)) ++ (⟨#[115, 119, 97, 112, 32]⟩ : ByteArray)) ++ t120) ++ (⟨#[32]⟩ : ByteArray)) ++ t121) ++ (⟨#[32]⟩ : ByteArray)) ++ t122)) else (none))) else (none)) else (none))) else (none)) else (none))) else (none))) else (none)) else (none))) else (none))) else (some (⟨#[]⟩ : ByteArray)))) = some r := h
  clear h
  replace H := Option.bind_eq_some_iff.mp H
  obtain ⟨t115, A20, H⟩ := H
  try dsimp only at H
  have A2 := Aside0.mk A20
  clear A20
  go_enter Tryd.func91, Tryd.ntmps91
  go_wp2_with (first | ((with_reducible refine gate_dst (N := 1) rfl ?_); refine bxe 1 #[.int .i64 a0_0, .int .i64 a0_1, .int .i64 a0_2, .int .i64 a0_3, .int .i64 a0_4, .int .i64 a0_5] 64 ?_; intro gb114 hg w46 hbox hb; have BK114 := Aside0.mk (hbox); have GW114 := tGe HB hg; have GE114 := tGe HB hg; replace HB := uR HB hb; clear hb hbox hg; obtain ⟨hcz47_0, hcz47_1, hcz47_2, hcz47_3, hcz47_4, hcz47_5, hfz47_0, hfz47_1, hfz47_2, hfz47_3, hfz47_4, hfz47_5⟩ := cz6 BK114; refine ?roundEnd))
  case roundEnd =>
  by_cases c3 : t115 = true
  rotate_left
  · replace c3 := Bool.eq_false_iff.mpr c3
    subst c3
    try rw [if_neg (show ¬ (false = true) by decide)] at H
    obtain rfl := Option.some.inj H
    go_wp2_with (first | ((with_reducible refine uM (f := 49) rfl ?_); refine uY (some 5) Tryd.func49 #[.agg #[.int .i64 a0_0, .int .i64 a0_1, .int .i64 a0_2, .int .i64 a0_3, .int .i64 a0_4, .int .i64 a0_5]] ?_; (with_reducible refine (spec_IsValidOp.calls a0_0 a0_1 a0_2 a0_3 a0_4 a0_5 false _ A2.out).mono ?_); rintro e w48 ⟨rfl, hb⟩; refine ⟨_, rfl, ?_⟩; replace BK114 := tBlk BK114 hb; replace HB := uR HB hb; (try clear hb)))
    go_ret
    exact ⟨cq3, cq0⟩
  subst c3
  try rw [if_pos rfl] at H
  replace H := Option.bind_eq_some_iff.mp H
  obtain ⟨t116, A40, H⟩ := H
  try dsimp only at H
  have A4 := Aside0.mk A40
  clear A40
  go_wp2_with (first | ((with_reducible refine uM (f := 49) rfl ?_); refine uY (some 5) Tryd.func49 #[.agg #[.int .i64 a0_0, .int .i64 a0_1, .int .i64 a0_2, .int .i64 a0_3, .int .i64 a0_4, .int .i64 a0_5]] ?_; (with_reducible refine (spec_IsValidOp.calls a0_0 a0_1 a0_2 a0_3 a0_4 a0_5 true _ A2.out).mono ?_); rintro e w18 ⟨rfl, hb⟩; refine ⟨_, rfl, ?_⟩; replace BK114 := tBlk BK114 hb; replace HB := uR HB hb; (try clear hb); refine ?roundEnd))
  case roundEnd =>
  by_cases c5 : t116.size + 1 ≤ 9223372036854775807
  rotate_left
  · rw [if_neg c5] at H
    exact absurd H (by simp)
  rw [if_pos c5] at H
  have c5b0 := eq_true c5
  have c5b1 := decide_eq_true c5
  try have c5b2 : (9223372036854775807 < t116.size + 1) = False := eq_false (Nat.not_lt.2 c5)
  replace H := Option.bind_eq_some_iff.mp H
  obtain ⟨t117, A60, H⟩ := H
  try dsimp only at H
  have A6 := Aside0.mk A60
  clear A60
  by_cases c7 : (t116 ++ (⟨#[46]⟩ : ByteArray)).size + t117.size ≤ 9223372036854775807
  rotate_left
  · rw [if_neg c7] at H
    exact absurd H (by simp)
  rw [if_pos c7] at H
  have c7b0 := eq_true c7
  have c7b1 := decide_eq_true c7
  try have c7b2 : (9223372036854775807 < (t116 ++ (⟨#[46]⟩ : ByteArray)).size + t117.size) = False := eq_false (Nat.not_lt.2 c7)
  have c7b3 : (9223372036854775807 < t116.size + 1 + t117.size) = False := eq_false (Nat.not_lt.2 (by have z_ := c7; (repeat rw [ByteArray.size_append] at z_); exact z_))
  by_cases c8 : ((t116 ++ (⟨#[46]⟩ : ByteArray)) ++ t117).size + 1 ≤ 9223372036854775807
  rotate_left
  · rw [if_neg c8] at H
    exact absurd H (by simp)
  rw [if_pos c8] at H
  have c8b0 := eq_true c8
  have c8b1 := decide_eq_true c8
  try have c8b2 : (9223372036854775807 < ((t116 ++ (⟨#[46]⟩ : ByteArray)) ++ t117).size + 1) = False := eq_false (Nat.not_lt.2 c8)
  have c8b3 : (9223372036854775807 < t116.size + 1 + t117.size + 1) = False := eq_false (Nat.not_lt.2 (by have z_ := c8; (repeat rw [ByteArray.size_append] at z_); exact z_))
  by_cases c9 : a0_2 = 1
  · rw [if_pos c9] at H
    have c9b0 := beq_iff_eq.mpr c9
    have c9b1 := bne_eq_false_iff_eq.mpr c9
    clear c9
    by_cases c10 : (((t116 ++ (⟨#[46]⟩ : ByteArray)) ++ t117) ++ (⟨#[32]⟩ : ByteArray)).size + 6 ≤ 9223372036854775807
    rotate_left
    · rw [if_neg c10] at H
      exact absurd H (by simp)
    rw [if_pos c10] at H
    have c10b0 := eq_true c10
    have c10b1 := decide_eq_true c10
    try have c10b2 : (9223372036854775807 < (((t116 ++ (⟨#[46]⟩ : ByteArray)) ++ t117) ++ (⟨#[32]⟩ : ByteArray)).size + 6) = False := eq_false (Nat.not_lt.2 c10)
    have c10b3 : (9223372036854775807 < t116.size + 1 + t117.size + 1 + 6) = False := eq_false (Nat.not_lt.2 (by have z_ := c10; (repeat rw [ByteArray.size_append] at z_); exact z_))
    replace H := Option.bind_eq_some_iff.mp H
    obtain ⟨t118, A110, H⟩ := H
    try dsimp only at H
    have A11 := Aside0.mk A110
    clear A110
    by_cases c12 : ((((t116 ++ (⟨#[46]⟩ : ByteArray)) ++ t117) ++ (⟨#[32]⟩ : ByteArray)) ++ (⟨#[119, 114, 105, 116, 101, 32]⟩ : ByteArray)).size + t118.size ≤ 9223372036854775807
    rotate_left
    · rw [if_neg c12] at H
      exact absurd H (by simp)
    rw [if_pos c12] at H
    have c12b0 := eq_true c12
    have c12b1 := decide_eq_true c12
    try have c12b2 : (9223372036854775807 < ((((t116 ++ (⟨#[46]⟩ : ByteArray)) ++ t117) ++ (⟨#[32]⟩ : ByteArray)) ++ (⟨#[119, 114, 105, 116, 101, 32]⟩ : ByteArray)).size + t118.size) = False := eq_false (Nat.not_lt.2 c12)
    have c12b3 : (9223372036854775807 < t116.size + 1 + t117.size + 1 + 6 + t118.size) = False := eq_false (Nat.not_lt.2 (by have z_ := c12; (repeat rw [ByteArray.size_append] at z_); exact z_))
    by_cases c13 : (((((t116 ++ (⟨#[46]⟩ : ByteArray)) ++ t117) ++ (⟨#[32]⟩ : ByteArray)) ++ (⟨#[119, 114, 105, 116, 101, 32]⟩ : ByteArray)) ++ t118).size + 1 ≤ 9223372036854775807
    rotate_left
    · rw [if_neg c13] at H
      exact absurd H (by simp)
    rw [if_pos c13] at H
    have c13b0 := eq_true c13
    have c13b1 := decide_eq_true c13
    try have c13b2 : (9223372036854775807 < (((((t116 ++ (⟨#[46]⟩ : ByteArray)) ++ t117) ++ (⟨#[32]⟩ : ByteArray)) ++ (⟨#[119, 114, 105, 116, 101, 32]⟩ : ByteArray)) ++ t118).size + 1) = False := eq_false (Nat.not_lt.2 c13)
    have c13b3 : (9223372036854775807 < t116.size + 1 + t117.size + 1 + 6 + t118.size + 1) = False := eq_false (Nat.not_lt.2 (by have z_ := c13; (repeat rw [ByteArray.size_append] at z_); exact z_))
    replace H := Option.bind_eq_some_iff.mp H
    obtain ⟨t119, A140, H⟩ := H
    try dsimp only at H
    have A14 := Aside0.mk A140
    clear A140
    by_cases c15 : ((((((t116 ++ (⟨#[46]⟩ : ByteArray)) ++ t117) ++ (⟨#[32]⟩ : ByteArray)) ++ (⟨#[119, 114, 105, 116, 101, 32]⟩ : ByteArray)) ++ t118) ++ (⟨#[32]⟩ : ByteArray)).size + t119.size ≤ 9223372036854775807
    rotate_left
    · rw [if_neg c15] at H
      exact absurd H (by simp)
    rw [if_pos c15] at H
    have c15b0 := eq_true c15
    have c15b1 := decide_eq_true c15
    try have c15b2 : (9223372036854775807 < ((((((t116 ++ (⟨#[46]⟩ : ByteArray)) ++ t117) ++ (⟨#[32]⟩ : ByteArray)) ++ (⟨#[119, 114, 105, 116, 101, 32]⟩ : ByteArray)) ++ t118) ++ (⟨#[32]⟩ : ByteArray)).size + t119.size) = False := eq_false (Nat.not_lt.2 c15)
    have c15b3 : (9223372036854775807 < t116.size + 1 + t117.size + 1 + 6 + t118.size + 1 + t119.size) = False := eq_false (Nat.not_lt.2 (by have z_ := c15; (repeat rw [ByteArray.size_append] at z_); exact z_))
    obtain rfl := Option.some.inj H
    try go_wp2
    replace BK114 := Aside0.mk (uF BK114.out)
    replace HB := Aside0.mk (vB HB.out)
    refine start_ (n := 10) (S := fun w' => w'.cell? ⟨gb114, 0, none⟩ = some (.int .i64 a0_0) ∧ w'.cell? ⟨gb114, 1, none⟩ = some (.int .i64 a0_1) ∧ w'.cell? ⟨gb114, 2, none⟩ = some (.int .i64 a0_2) ∧ w'.cell? ⟨gb114, 3, none⟩ = some (.int .i64 a0_3) ∧ w'.cell? ⟨gb114, 4, none⟩ = some (.int .i64 a0_4) ∧ w'.cell? ⟨gb114, 5, none⟩ = some (.int .i64 a0_5)) (ds := []) tb12 (by kernel_rfl) rfl rfl ⟨(uA BK114.out 0).trans rfl, (uA BK114.out 1).trans rfl, (uA BK114.out 2).trans rfl, (uA BK114.out 3).trans rfl, (uA BK114.out 4).trans rfl, (uA BK114.out 5).trans rfl⟩ (fun hHeld => ?_); refine with_tabW spec_FormatOp.tab3 spec_FormatOp.bits3 (fun HT_ HW_ => ?_)
    generalize w18.drew = w19 at BK114 HB hHeld ⊢
    refine uJ 0 (some 7) tb13 ?_
    refine uJ 4 (some 11) tb85 ?_
    refine takeT 1 (some 8) tb86 ?_
    refine takeT 5 (some 12) tb90 ?_
    refine oneT 2 (some 9) tb27 (fun K hK => ?_)
    refine goesT Tryd.func90 #[.int .i64 a0_0] ?_
    with_reducible refine (spec_FormatInt.calls k a0_0 t116 _ A4.out).mono ?_
    rintro e w20 ⟨rfl, hb⟩
    refine ⟨_, rfl, ?_⟩
    replace BK114 := tBlk BK114 hb
    replace HB := uR HB hb
    (try clear hb)
    refine hK.out _ _ ⟨(uA BK114.out 0).trans rfl, (uA BK114.out 1).trans rfl, (uA BK114.out 2).trans rfl, (uA BK114.out 3).trans rfl, (uA BK114.out 4).trans rfl, (uA BK114.out 5).trans rfl⟩ (fun hHeld => ?_)
    clear hK K
    refine uW ?_
    refine uJ 3 (some 10) tb62 ?_
    refine oneT 6 (some 13) tb18 (fun K hK => ?_)
    refine goesT Tryd.func90 #[.int .i64 a0_1] ?_
    with_reducible refine (spec_FormatInt.calls k a0_1 t117 _ A6.out).mono ?_
    rintro e w21 ⟨rfl, hb⟩
    refine ⟨_, rfl, ?_⟩
    replace BK114 := tBlk BK114 hb
    replace HB := uR HB hb
    (try clear hb)
    refine hK.out _ _ ⟨(uA BK114.out 0).trans rfl, (uA BK114.out 1).trans rfl, (uA BK114.out 2).trans rfl, (uA BK114.out 3).trans rfl, (uA BK114.out 4).trans rfl, (uA BK114.out 5).trans rfl⟩ (fun hHeld => ?_)
    clear hK K
    refine uW ?_
    refine uJ 7 (some 14) tb19 ?_
    refine uJ 8 (some 15) tb20 ?_
    refine uJ 9 (some 3) tb21 ?_
    refine done_ (done_of HT_.out (by kernel_rfl)) ?_
    obtain ⟨hcz22_0, hcz22_1, hcz22_2, hcz22_3, hcz22_4, hcz22_5, hfz22_0, hfz22_1, hfz22_2, hfz22_3, hfz22_4, hfz22_5⟩ := cz6 BK114
    try go_wp2
    replace BK114 := Aside0.mk (uF BK114.out)
    replace HB := Aside0.mk (vB HB.out)
    refine start_ (n := 12) (S := fun w' => w'.cell? ⟨gb114, 0, none⟩ = some (.int .i64 a0_0) ∧ w'.cell? ⟨gb114, 1, none⟩ = some (.int .i64 a0_1) ∧ w'.cell? ⟨gb114, 2, none⟩ = some (.int .i64 a0_2) ∧ w'.cell? ⟨gb114, 3, none⟩ = some (.int .i64 a0_3) ∧ w'.cell? ⟨gb114, 4, none⟩ = some (.int .i64 a0_4) ∧ w'.cell? ⟨gb114, 5, none⟩ = some (.int .i64 a0_5)) (ds := []) tb28 (by kernel_rfl) rfl rfl ⟨(uA BK114.out 0).trans rfl, (uA BK114.out 1).trans rfl, (uA BK114.out 2).trans rfl, (uA BK114.out 3).trans rfl, (uA BK114.out 4).trans rfl, (uA BK114.out 5).trans rfl⟩ (fun hHeld => ?_); refine with_tabW spec_FormatOp.tab5 spec_FormatOp.bits5 (fun HT_ HW_ => ?_)
    generalize w21.drew = w23 at BK114 HB hHeld ⊢
    refine uJ 0 (some 19) tb29 ?_
    refine uJ 1 (some 20) tb30 ?_
    refine uJ 2 (some 21) tb63 ?_
    refine uJ 7 (some 26) tb64 ?_
    refine takeT 3 (some 22) tb65 ?_
    refine takeT 8 (some 27) tb66 ?_
    refine oneT 4 (some 23) tb67 (fun K hK => ?_)
    refine goesT Tryd.func90 #[.int .i64 a0_3] ?_
    with_reducible refine (spec_FormatInt.calls k a0_3 t118 _ A11.out).mono ?_
    rintro e w24 ⟨rfl, hb⟩
    refine ⟨_, rfl, ?_⟩
    replace BK114 := tBlk BK114 hb
    replace HB := uR HB hb
    (try clear hb)
    refine hK.out _ _ ⟨(uA BK114.out 0).trans rfl, (uA BK114.out 1).trans rfl, (uA BK114.out 2).trans rfl, (uA BK114.out 3).trans rfl, (uA BK114.out 4).trans rfl, (uA BK114.out 5).trans rfl⟩ (fun hHeld => ?_)
    clear hK K
    refine uW ?_
    refine uJ 5 (some 24) tb69 ?_
    refine uJ 6 (some 25) tb37 ?_
    refine oneT 9 (some 28) tb44 (fun K hK => ?_)
    refine goesT Tryd.func90 #[.int .i64 a0_5] ?_
    with_reducible refine (spec_FormatInt.calls k a0_5 t119 _ A14.out).mono ?_
    rintro e w25 ⟨rfl, hb⟩
    refine ⟨_, rfl, ?_⟩
    replace BK114 := tBlk BK114 hb
    replace HB := uR HB hb
    (try clear hb)
    refine hK.out _ _ ⟨(uA BK114.out 0).trans rfl, (uA BK114.out 1).trans rfl, (uA BK114.out 2).trans rfl, (uA BK114.out 3).trans rfl, (uA BK114.out 4).trans rfl, (uA BK114.out 5).trans rfl⟩ (fun hHeld => ?_)
    clear hK K
    refine uW ?_
    refine uJ 10 (some 29) tb47 ?_
    refine uJ 11 (some 2) tb53 ?_
    refine done_ (done_of HT_.out (by kernel_rfl)) ?_
    try go_wp2
    go_ret
    exact ⟨cq3, cq0⟩
  rw [if_neg c9] at H
  have c9b0 := beq_eq_false_iff_ne.mpr c9
  have c9b1 := bne_iff_ne.mpr c9
  by_cases c26 : (((t116 ++ (⟨#[46]⟩ : ByteArray)) ++ t117) ++ (⟨#[32]⟩ : ByteArray)).size + 5 ≤ 9223372036854775807
  rotate_left
  · rw [if_neg c26] at H
    exact absurd H (by simp)
  rw [if_pos c26] at H
  have c26b0 := eq_true c26
  have c26b1 := decide_eq_true c26
  try have c26b2 : (9223372036854775807 < (((t116 ++ (⟨#[46]⟩ : ByteArray)) ++ t117) ++ (⟨#[32]⟩ : ByteArray)).size + 5) = False := eq_false (Nat.not_lt.2 c26)
  have c26b3 : (9223372036854775807 < t116.size + 1 + t117.size + 1 + 5) = False := eq_false (Nat.not_lt.2 (by have z_ := c26; (repeat rw [ByteArray.size_append] at z_); exact z_))
  replace H := Option.bind_eq_some_iff.mp H
  obtain ⟨t120, A270, H⟩ := H
  try dsimp only at H
  have A27 := Aside0.mk A270
  clear A270
  by_cases c28 : ((((t116 ++ (⟨#[46]⟩ : ByteArray)) ++ t117) ++ (⟨#[32]⟩ : ByteArray)) ++ (⟨#[115, 119, 97, 112, 32]⟩ : ByteArray)).size + t120.size ≤ 9223372036854775807
  rotate_left
  · rw [if_neg c28] at H
    exact absurd H (by simp)
  rw [if_pos c28] at H
  have c28b0 := eq_true c28
  have c28b1 := decide_eq_true c28
  try have c28b2 : (9223372036854775807 < ((((t116 ++ (⟨#[46]⟩ : ByteArray)) ++ t117) ++ (⟨#[32]⟩ : ByteArray)) ++ (⟨#[115, 119, 97, 112, 32]⟩ : ByteArray)).size + t120.size) = False := eq_false (Nat.not_lt.2 c28)
  have c28b3 : (9223372036854775807 < t116.size + 1 + t117.size + 1 + 5 + t120.size) = False := eq_false (Nat.not_lt.2 (by have z_ := c28; (repeat rw [ByteArray.size_append] at z_); exact z_))
  by_cases c29 : (((((t116 ++ (⟨#[46]⟩ : ByteArray)) ++ t117) ++ (⟨#[32]⟩ : ByteArray)) ++ (⟨#[115, 119, 97, 112, 32]⟩ : ByteArray)) ++ t120).size + 1 ≤ 9223372036854775807
  rotate_left
  · rw [if_neg c29] at H
    exact absurd H (by simp)
  rw [if_pos c29] at H
  have c29b0 := eq_true c29
  have c29b1 := decide_eq_true c29
  try have c29b2 : (9223372036854775807 < (((((t116 ++ (⟨#[46]⟩ : ByteArray)) ++ t117) ++ (⟨#[32]⟩ : ByteArray)) ++ (⟨#[115, 119, 97, 112, 32]⟩ : ByteArray)) ++ t120).size + 1) = False := eq_false (Nat.not_lt.2 c29)
  have c29b3 : (9223372036854775807 < t116.size + 1 + t117.size + 1 + 5 + t120.size + 1) = False := eq_false (Nat.not_lt.2 (by have z_ := c29; (repeat rw [ByteArray.size_append] at z_); exact z_))
  replace H := Option.bind_eq_some_iff.mp H
  obtain ⟨t121, A300, H⟩ := H
  try dsimp only at H
  have A30 := Aside0.mk A300
  clear A300
  by_cases c31 : ((((((t116 ++ (⟨#[46]⟩ : ByteArray)) ++ t117) ++ (⟨#[32]⟩ : ByteArray)) ++ (⟨#[115, 119, 97, 112, 32]⟩ : ByteArray)) ++ t120) ++ (⟨#[32]⟩ : ByteArray)).size + t121.size ≤ 9223372036854775807
  rotate_left
  · rw [if_neg c31] at H
    exact absurd H (by simp)
  rw [if_pos c31] at H
  have c31b0 := eq_true c31
  have c31b1 := decide_eq_true c31
  try have c31b2 : (9223372036854775807 < ((((((t116 ++ (⟨#[46]⟩ : ByteArray)) ++ t117) ++ (⟨#[32]⟩ : ByteArray)) ++ (⟨#[115, 119, 97, 112, 32]⟩ : ByteArray)) ++ t120) ++ (⟨#[32]⟩ : ByteArray)).size + t121.size) = False := eq_false (Nat.not_lt.2 c31)
  have c31b3 : (9223372036854775807 < t116.size + 1 + t117.size + 1 + 5 + t120.size + 1 + t121.size) = False := eq_false (Nat.not_lt.2 (by have z_ := c31; (repeat rw [ByteArray.size_append] at z_); exact z_))
  by_cases c32 : (((((((t116 ++ (⟨#[46]⟩ : ByteArray)) ++ t117) ++ (⟨#[32]⟩ : ByteArray)) ++ (⟨#[115, 119, 97, 112, 32]⟩ : ByteArray)) ++ t120) ++ (⟨#[32]⟩ : ByteArray)) ++ t121).size + 1 ≤ 9223372036854775807
  rotate_left
  · rw [if_neg c32] at H
    exact absurd H (by simp)
  rw [if_pos c32] at H
  have c32b0 := eq_true c32
  have c32b1 := decide_eq_true c32
  try have c32b2 : (9223372036854775807 < (((((((t116 ++ (⟨#[46]⟩ : ByteArray)) ++ t117) ++ (⟨#[32]⟩ : ByteArray)) ++ (⟨#[115, 119, 97, 112, 32]⟩ : ByteArray)) ++ t120) ++ (⟨#[32]⟩ : ByteArray)) ++ t121).size + 1) = False := eq_false (Nat.not_lt.2 c32)
  have c32b3 : (9223372036854775807 < t116.size + 1 + t117.size + 1 + 5 + t120.size + 1 + t121.size + 1) = False := eq_false (Nat.not_lt.2 (by have z_ := c32; (repeat rw [ByteArray.size_append] at z_); exact z_))
  replace H := Option.bind_eq_some_iff.mp H
  obtain ⟨t122, A330, H⟩ := H
  try dsimp only at H
  have A33 := Aside0.mk A330
  clear A330
  by_cases c34 : ((((((((t116 ++ (⟨#[46]⟩ : ByteArray)) ++ t117) ++ (⟨#[32]⟩ : ByteArray)) ++ (⟨#[115, 119, 97, 112, 32]⟩ : ByteArray)) ++ t120) ++ (⟨#[32]⟩ : ByteArray)) ++ t121) ++ (⟨#[32]⟩ : ByteArray)).size + t122.size ≤ 9223372036854775807
  rotate_left
  · rw [if_neg c34] at H
    exact absurd H (by simp)
  rw [if_pos c34] at H
  have c34b0 := eq_true c34
  have c34b1 := decide_eq_true c34
  try have c34b2 : (9223372036854775807 < ((((((((t116 ++ (⟨#[46]⟩ : ByteArray)) ++ t117) ++ (⟨#[32]⟩ : ByteArray)) ++ (⟨#[115, 119, 97, 112, 32]⟩ : ByteArray)) ++ t120) ++ (⟨#[32]⟩ : ByteArray)) ++ t121) ++ (⟨#[32]⟩ : ByteArray)).size + t122.size) = False := eq_false (Nat.not_lt.2 c34)
  have c34b3 : (9223372036854775807 < t116.size + 1 + t117.size + 1 + 5 + t120.size + 1 + t121.size + 1 + t122.size) = False := eq_false (Nat.not_lt.2 (by have z_ := c34; (repeat rw [ByteArray.size_append] at z_); exact z_))
  obtain rfl := Option.some.inj H
  try go_wp2
  replace BK114 := Aside0.mk (uF BK114.out)
  replace HB := Aside0.mk (vB HB.out)
  refine start_ (n := 10) (S := fun w' => w'.cell? ⟨gb114, 0, none⟩ = some (.int .i64 a0_0) ∧ w'.cell? ⟨gb114, 1, none⟩ = some (.int .i64 a0_1) ∧ w'.cell? ⟨gb114, 2, none⟩ = some (.int .i64 a0_2) ∧ w'.cell? ⟨gb114, 3, none⟩ = some (.int .i64 a0_3) ∧ w'.cell? ⟨gb114, 4, none⟩ = some (.int .i64 a0_4) ∧ w'.cell? ⟨gb114, 5, none⟩ = some (.int .i64 a0_5)) (ds := []) tb12 (by kernel_rfl) rfl rfl ⟨(uA BK114.out 0).trans rfl, (uA BK114.out 1).trans rfl, (uA BK114.out 2).trans rfl, (uA BK114.out 3).trans rfl, (uA BK114.out 4).trans rfl, (uA BK114.out 5).trans rfl⟩ (fun hHeld => ?_); refine with_tabW spec_FormatOp.tab3 spec_FormatOp.bits3 (fun HT_ HW_ => ?_)
  generalize w18.drew = w38 at BK114 HB hHeld ⊢
  refine uJ 0 (some 7) tb13 ?_
  refine uJ 4 (some 11) tb85 ?_
  refine takeT 1 (some 8) tb86 ?_
  refine takeT 5 (some 12) tb90 ?_
  refine oneT 2 (some 9) tb27 (fun K hK => ?_)
  refine goesT Tryd.func90 #[.int .i64 a0_0] ?_
  with_reducible refine (spec_FormatInt.calls k a0_0 t116 _ A4.out).mono ?_
  rintro e w39 ⟨rfl, hb⟩
  refine ⟨_, rfl, ?_⟩
  replace BK114 := tBlk BK114 hb
  replace HB := uR HB hb
  (try clear hb)
  refine hK.out _ _ ⟨(uA BK114.out 0).trans rfl, (uA BK114.out 1).trans rfl, (uA BK114.out 2).trans rfl, (uA BK114.out 3).trans rfl, (uA BK114.out 4).trans rfl, (uA BK114.out 5).trans rfl⟩ (fun hHeld => ?_)
  clear hK K
  refine uW ?_
  refine uJ 3 (some 10) tb62 ?_
  refine oneT 6 (some 13) tb18 (fun K hK => ?_)
  refine goesT Tryd.func90 #[.int .i64 a0_1] ?_
  with_reducible refine (spec_FormatInt.calls k a0_1 t117 _ A6.out).mono ?_
  rintro e w40 ⟨rfl, hb⟩
  refine ⟨_, rfl, ?_⟩
  replace BK114 := tBlk BK114 hb
  replace HB := uR HB hb
  (try clear hb)
  refine hK.out _ _ ⟨(uA BK114.out 0).trans rfl, (uA BK114.out 1).trans rfl, (uA BK114.out 2).trans rfl, (uA BK114.out 3).trans rfl, (uA BK114.out 4).trans rfl, (uA BK114.out 5).trans rfl⟩ (fun hHeld => ?_)
  clear hK K
  refine uW ?_
  refine uJ 7 (some 14) tb19 ?_
  refine uJ 8 (some 15) tb20 ?_
  refine uJ 9 (some 3) tb21 ?_
  refine done_ (done_of HT_.out (by kernel_rfl)) ?_
  obtain ⟨hcz41_0, hcz41_1, hcz41_2, hcz41_3, hcz41_4, hcz41_5, hfz41_0, hfz41_1, hfz41_2, hfz41_3, hfz41_4, hfz41_5⟩ := cz6 BK114
  try go_wp2
  replace BK114 := Aside0.mk (uF BK114.out)
  replace HB := Aside0.mk (vB HB.out)
  refine start_ (n := 17) (S := fun w' => w'.cell? ⟨gb114, 0, none⟩ = some (.int .i64 a0_0) ∧ w'.cell? ⟨gb114, 1, none⟩ = some (.int .i64 a0_1) ∧ w'.cell? ⟨gb114, 2, none⟩ = some (.int .i64 a0_2) ∧ w'.cell? ⟨gb114, 3, none⟩ = some (.int .i64 a0_3) ∧ w'.cell? ⟨gb114, 4, none⟩ = some (.int .i64 a0_4) ∧ w'.cell? ⟨gb114, 5, none⟩ = some (.int .i64 a0_5)) (ds := []) tb0 (by kernel_rfl) rfl rfl ⟨(uA BK114.out 0).trans rfl, (uA BK114.out 1).trans rfl, (uA BK114.out 2).trans rfl, (uA BK114.out 3).trans rfl, (uA BK114.out 4).trans rfl, (uA BK114.out 5).trans rfl⟩ (fun hHeld => ?_); refine with_tabW spec_FormatOp.tab6 spec_FormatOp.bits6 (fun HT_ HW_ => ?_)
  generalize w40.drew = w42 at BK114 HB hHeld ⊢
  refine uJ 0 (some 30) tb1 ?_
  refine uJ 1 (some 31) tb2 ?_
  refine uJ 2 (some 32) tb3 ?_
  refine uJ 7 (some 37) tb31 ?_
  refine uJ 12 (some 42) tb35 ?_
  refine takeT 3 (some 33) tb39 ?_
  refine takeT 8 (some 38) tb42 ?_
  refine takeT 13 (some 43) tb45 ?_
  refine oneT 4 (some 34) tb49 (fun K hK => ?_)
  refine goesT Tryd.func90 #[.int .i64 a0_3] ?_
  with_reducible refine (spec_FormatInt.calls k a0_3 t120 _ A27.out).mono ?_
  rintro e w43 ⟨rfl, hb⟩
  refine ⟨_, rfl, ?_⟩
  replace BK114 := tBlk BK114 hb
  replace HB := uR HB hb
  (try clear hb)
  refine hK.out _ _ ⟨(uA BK114.out 0).trans rfl, (uA BK114.out 1).trans rfl, (uA BK114.out 2).trans rfl, (uA BK114.out 3).trans rfl, (uA BK114.out 4).trans rfl, (uA BK114.out 5).trans rfl⟩ (fun hHeld => ?_)
  clear hK K
  refine uW ?_
  refine uJ 5 (some 35) tb51 ?_
  refine uJ 6 (some 36) tb54 ?_
  refine oneT 9 (some 39) tb56 (fun K hK => ?_)
  refine goesT Tryd.func90 #[.int .i64 a0_4] ?_
  with_reducible refine (spec_FormatInt.calls k a0_4 t121 _ A30.out).mono ?_
  rintro e w44 ⟨rfl, hb⟩
  refine ⟨_, rfl, ?_⟩
  replace BK114 := tBlk BK114 hb
  replace HB := uR HB hb
  (try clear hb)
  refine hK.out _ _ ⟨(uA BK114.out 0).trans rfl, (uA BK114.out 1).trans rfl, (uA BK114.out 2).trans rfl, (uA BK114.out 3).trans rfl, (uA BK114.out 4).trans rfl, (uA BK114.out 5).trans rfl⟩ (fun hHeld => ?_)
  clear hK K
  refine uW ?_
  refine uJ 10 (some 40) tb58 ?_
  refine uJ 11 (some 41) tb4 ?_
  refine oneT 14 (some 44) tb5 (fun K hK => ?_)
  refine goesT Tryd.func90 #[.int .i64 a0_5] ?_
  with_reducible refine (spec_FormatInt.calls k a0_5 t122 _ A33.out).mono ?_
  rintro e w45 ⟨rfl, hb⟩
  refine ⟨_, rfl, ?_⟩
  replace BK114 := tBlk BK114 hb
  replace HB := uR HB hb
  (try clear hb)
  refine hK.out _ _ ⟨(uA BK114.out 0).trans rfl, (uA BK114.out 1).trans rfl, (uA BK114.out 2).trans rfl, (uA BK114.out 3).trans rfl, (uA BK114.out 4).trans rfl, (uA BK114.out 5).trans rfl⟩ (fun hHeld => ?_)
  clear hK K
  refine uW ?_
  refine uJ 15 (some 45) tb6 ?_
  refine uJ 16 (some 2) tb8 ?_
  refine done_ (done_of HT_.out (by kernel_rfl)) ?_
  try go_wp2
  go_ret
  exact ⟨cq3, cq0⟩

end Go.Proofs.YtcikahnmiiichaaDoor.L
