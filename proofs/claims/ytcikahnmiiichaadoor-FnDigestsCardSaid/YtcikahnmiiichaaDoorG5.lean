/- Go functions as Lean functions, and the proof that the code comes to them: written by a program of this session out of the translation. -/
import Derived.Test.YtcikahnmiiichaaDoorG0
import Derived.Test.YtcikahnmiiichaaDoorG3
import Derived.Test.YtcikahnmiiichaaDoorG4
import Derived.Test.YtcikahnmiiichaaDoorShelf
namespace Go.Proofs.YtcikahnmiiichaaDoor.G
open List renaming setIfInBounds_toArray → uY, set_cons_zero → uZ, set_cons_succ → vA
open Go.World renaming block_lt_of_cell? → vE
open Go.Proofs.YtcikahnmiiichaaDoor.Given
open Go.RowKit Go.Proofs.YtcikahnmiiichaaDoorW.PrintWords Go.Proofs.YtcikahnmiiichaaDoorW.PrintLast Go.Proofs.YtcikahnmiiichaaDoorW.PrintMore
attribute [local go_sem] max2_int min2_int max_two min_two max_three min_three max_four min_four   -- for this text's walks alone
set_option linter.unusedVariables false
set_option linter.unusedSimpArgs false

/-! ### impl_FormatOp: function 88 -/
def impl_FormatOp.f (a0_0 : Int) (a0_1 : Int) (a0_2 : Int) (a0_3 : Int) (a0_4 : Int) (a0_5 : Int) : Option (ByteArray) := (impl_IsValidOp.f a0_0 a0_1 a0_2 a0_3 a0_4 a0_5).bind fun t327 => (if t327 = true then ((impl_FormatInt.f a0_0).bind fun t328 => (if t328.size + 1 ≤ 9223372036854775807 then ((impl_FormatInt.f a0_1).bind fun t329 => (if (t328 ++ (⟨#[46]⟩ : ByteArray)).size + t329.size ≤ 9223372036854775807 then (if a0_2 = 2 then (if ((t328 ++ (⟨#[46]⟩ : ByteArray)) ++ t329).size + 6 ≤ 9223372036854775807 then ((impl_FormatInt.f a0_3).bind fun t330 => (if (((t328 ++ (⟨#[46]⟩ : ByteArray)) ++ t329) ++ (⟨#[32, 115, 119, 97, 112, 32]⟩ : ByteArray)).size + t330.size ≤ 9223372036854775807 then (if ((((t328 ++ (⟨#[46]⟩ : ByteArray)) ++ t329) ++ (⟨#[32, 115, 119, 97, 112, 32]⟩ : ByteArray)) ++ t330).size + 1 ≤ 9223372036854775807 then ((impl_FormatInt.f a0_4).bind fun t331 => (if (((((t328 ++ (⟨#[46]⟩ : ByteArray)) ++ t329) ++ (⟨#[32, 115, 119, 97, 112, 32]⟩ : ByteArray)) ++ t330) ++ (⟨#[32]⟩ : ByteArray)).size + t331.size ≤ 9223372036854775807 then (if ((((((t328 ++ (⟨#[46]⟩ : ByteArray)) ++ t329) ++ (⟨#[32, 115, 119, 97, 112, 32]⟩ : ByteArray)) ++ t330) ++ (⟨#[32]⟩ : ByteArray)) ++ t331).size + 1 ≤ 9223372036854775807 then ((impl_FormatInt.f a0_5).bind fun t332 => (if (((((((t328 ++ (⟨#[46]⟩ : ByteArray)) ++ t329) ++ (⟨#[32, 115, 119, 97, 112, 32]⟩ : ByteArray)) ++ t330) ++ (⟨#[32]⟩ : ByteArray)) ++ t331) ++ (⟨#[32]⟩ : ByteArray)).size + t332.size ≤ 9223372036854775807 then (some ((((((((t328 ++ (⟨#[46]⟩ : ByteArray)) ++ t329) ++ (⟨#[32, 115, 119, 97, 112, 32]⟩ : ByteArray)) ++ t330) ++ (⟨#[32]⟩ : ByteArray)) ++ t331) ++ (⟨#[32]⟩ : ByteArray)) ++ t332)) else (none))) else (none)) else (none))) else (none)) else (none))) else (none)) else (if ((t328 ++ (⟨#[46]⟩ : ByteArray)) ++ t329).size + 7 ≤ 9223372036854775807 then ((impl_FormatInt.f a0_3).bind fun t333 => (if (((t328 ++ (⟨#[46]⟩ : ByteArray)) ++ t329) ++ (⟨#[32, 119, 114, 105, 116, 101, 32]⟩ : ByteArray)).size + t333.size ≤ 9223372036854775807 then (if ((((t328 ++ (⟨#[46]⟩ : ByteArray)) ++ t329) ++ (⟨#[32, 119, 114, 105, 116, 101, 32]⟩ : ByteArray)) ++ t333).size + 1 ≤ 9223372036854775807 then ((impl_FormatInt.f a0_5).bind fun t334 => (if (((((t328 ++ (⟨#[46]⟩ : ByteArray)) ++ t329) ++ (⟨#[32, 119, 114, 105, 116, 101, 32]⟩ : ByteArray)) ++ t333) ++ (⟨#[32]⟩ : ByteArray)).size + t334.size ≤ 9223372036854775807 then (some ((((((t328 ++ (⟨#[46]⟩ : ByteArray)) ++ t329) ++ (⟨#[32, 119, 114, 105, 116, 101, 32]⟩ : ByteArray)) ++ t333) ++ (⟨#[32]⟩ : ByteArray)) ++ t334)) else (none))) else (none)) else (none))) else (none))) else (none))) else (none))) else (some (⟨#[]⟩ : ByteArray)))
def impl_FormatOp.T3 : Bool × List (List Nat × List Nat) := (true, [([], []), ([0], [0]), ([1], [1]), ([2], [2]), ([], []), ([4], [4]), ([5, 2], [5]), ([3, 6], [3, 6]), ([7, 6, 0, 1, 2, 3, 4, 5, 6, 7], [7])])
def impl_FormatOp.B3 : List Nat := [0, 1, 3, 7, 0, 16, 55, 127, 255]
theorem impl_FormatOp.tab3 : rtab .any (opsOf Tryd.f88 3) = impl_FormatOp.T3 := by kernel_rfl
theorem impl_FormatOp.bits3 : waitsOk impl_FormatOp.T3.2 impl_FormatOp.B3 = true := by kernel_rfl
def impl_FormatOp.T5 : Bool × List (List Nat × List Nat) := (true, [([], []), ([0], [0]), ([], []), ([2], [2]), ([3], [3]), ([1, 4], [1, 4]), ([5], [5]), ([], []), ([7], [7]), ([8, 4], [8]), ([6, 9], [6, 9]), ([10], [10]), ([], []), ([12], [12]), ([13, 9], [13]), ([11, 14], [11, 14]), ([15, 14, 0, 1, 2, 3, 4, 5, 6, 7, 8, 9, 10, 11, 12, 13, 14, 15], [15])])
def impl_FormatOp.B5 : List Nat := [0, 1, 0, 4, 12, 31, 63, 0, 128, 412, 1023, 2047, 0, 4096, 13212, 32767, 65535]
theorem impl_FormatOp.tab5 : rtab .any (opsOf Tryd.f88 5) = impl_FormatOp.T5 := by kernel_rfl
theorem impl_FormatOp.bits5 : waitsOk impl_FormatOp.T5.2 impl_FormatOp.B5 = true := by kernel_rfl
def impl_FormatOp.T6 : Bool × List (List Nat × List Nat) := (true, [([], []), ([0], [0]), ([], []), ([2], [2]), ([3], [3]), ([1, 4], [1, 4]), ([5], [5]), ([], []), ([7], [7]), ([8, 4], [8]), ([6, 9], [6, 9]), ([10, 9, 0, 1, 2, 3, 4, 5, 6, 7, 8, 9, 10], [10])])
def impl_FormatOp.B6 : List Nat := [0, 1, 0, 4, 12, 31, 63, 0, 128, 412, 1023, 2047]
theorem impl_FormatOp.tab6 : rtab .any (opsOf Tryd.f88 6) = impl_FormatOp.T6 := by kernel_rfl
theorem impl_FormatOp.bits6 : waitsOk impl_FormatOp.T6.2 impl_FormatOp.B6 = true := by kernel_rfl
set_option maxHeartbeats 8000000 in
set_option maxRecDepth 100000 in
theorem impl_FormatOp.calls (a0_0 : Int) (a0_1 : Int) (a0_2 : Int) (a0_3 : Int) (a0_4 : Int) (a0_5 : Int) (r : ByteArray) (w : World) (hWF : WF w) (h : impl_FormatOp.f a0_0 a0_1 a0_2 a0_3 a0_4 a0_5 = some r) :
    Calls Tryd.prog 88 #[.agg #[.int .i64 a0_0, .int .i64 a0_1, .int .i64 a0_2, .int .i64 a0_3, .int .i64 a0_4, .int .i64 a0_5]] w fun e w' => e = .returned (.string r) ∧ Below w.heap.size w w' := by
  have hu64 := Tryd.underlying64
  have HB := Aside0.mk (Below.refl w.heap.size w)
  have H : ((impl_IsValidOp.f a0_0 a0_1 a0_2 a0_3 a0_4 a0_5).bind fun t327 => (if t327 = true then ((impl_FormatInt.f a0_0).bind fun t328 => (if t328.size + 1 ≤ 9223372036854775807 then ((impl_FormatInt.f a0_1).bind fun t329 => (if (t328 ++ (⟨#[46]⟩ : ByteArray)).size + t329.size ≤ 9223372036854775807 then (if a0_2 = 2 then (if ((t328 ++ (⟨#[46]⟩ : ByteArray)) ++ t329).size + 6 ≤ 9223372036854775807 then ((impl_FormatInt.f a0_3).bind fun t330 => (if (((t328 ++ (⟨#[46]⟩ : ByteArray)) ++ t329) ++ (⟨#[32, 115, 119, 97, 112, 32]⟩ : ByteArray)).size + t330.size ≤ 9223372036854775807 then (if ((((t328 ++ (⟨#[46]⟩ : ByteArray)) ++ t329) ++ (⟨#[32, 115, 119, 97, 112, 32]⟩ : ByteArray)) ++ t330).size + 1 ≤ 9223372036854775807 then ((impl_FormatInt.f a0_4).bind fun t331 => (if (((((t328 ++ (⟨#[46]⟩ : ByteArray)) ++ t329) ++ (⟨#[32, 115, 119, 97, 112, 32]⟩ : ByteArray)) ++ t330) ++ (⟨#[32]⟩ : ByteArray)).size + t331.size ≤ 9223372036854775807 then (if ((((((t328 ++ (⟨#[46]⟩ : ByteArray)) ++ t329) ++ (⟨#[32, 115, 119, 97, 112, 32]⟩ : ByteArray)) ++ t330) ++ (⟨#[32]⟩ : ByteArray)) ++ t331).size + 1 ≤ 9223372036854775807 then ((impl_FormatInt.f a0_5).bind fun t332 => (if (((((((t328 ++ (⟨#[46]⟩ : ByteArray)) ++ t329) ++ (⟨#[32, 115, 119, 97, 112, 32]⟩ : ByteArray)) ++ t330) ++ (⟨#[32]⟩ : ByteArray)) ++ t331) ++ (⟨#[32]⟩ : ByteArray)).size + t332.size ≤ 9223372036854775807 then (some ((((((((t328 ++ (⟨#[46]⟩ : ByteArray)) ++ t329) ++ (⟨#[32, 115, 119, 97, 112, 32]⟩ : ByteArray)) ++ t330) ++ (⟨#[32]⟩ : ByteArray)) ++ t331) ++ (⟨#[32]⟩ : ByteArray)) ++ t332)) else (none))) else (none)) else (none))) else (none)) else (none))) else (none)) else (if ((t328 ++ (⟨#[46]⟩ : ByteArray)) ++ t329).size + 7 ≤ 9223372036854775807 then ((impl_FormatInt.f a0_3).bind fun t333 => (if (((t328 ++ (⟨#[46]⟩ : ByteArray)) ++ t329) ++ (⟨#[32, 119, 114, 105, 116, 101, 32]⟩ : ByteArray)).size + t333.size ≤ 9223372036854775807 then (if ((((t328 ++ (⟨#[46]⟩ : ByteArray)) ++ t329) ++ (⟨#[32, 119, 114, 105, 116, 101, 32]⟩ : ByteArray)) ++ t333).size + 1 ≤ 9223372036854775807 then ((impl_FormatInt.f a0_5).bind fun t334 => (if (((((t328 ++ (⟨#[46]⟩ : ByteArray)) ++ t329) ++ (⟨#[32, 119, 114, 105, 116, 101, 32]⟩ : ByteArray)) ++ t333) ++ (⟨#[32]⟩ : ByteArray)).size + t334.size ≤ 9223372036854775807 then (some ((((((t328 ++ (⟨#[46]⟩ : ByteArray)) ++ t329) ++ (⟨#[32, 119, 114, 105, 116, 101, 32]⟩ : ByteArray)) ++ t333) ++ (⟨#[32]⟩ : ByteArray)) ++ t334)) else (none))) else (none)) else (none))) else (none))) else (none))) else (none))) else (some (⟨#[]⟩ : ByteArray)))) = some r := h
  clear h
  replace H := Option.bind_eq_some_iff.mp H
  obtain ⟨t327, A20, H⟩ := H
  try dsimp only at H
  have A2 := Aside0.mk A20
  clear A20
  go_enter Tryd.func88, Tryd.ntmps88
  go_wp2_with (first | ((with_reducible refine uR (N := 1) rfl ?_); refine bxe 1 #[.int .i64 a0_0, .int .i64 a0_1, .int .i64 a0_2, .int .i64 a0_3, .int .i64 a0_4, .int .i64 a0_5] 64 ?_; intro gb326 hg w45 hbox hb; have BK326 := Aside0.mk (hbox); have GW326 := tGe HB hg; have GE326 := tGe HB hg; replace HB := uQ HB hb; clear hb hbox hg; obtain ⟨hcz46_0, hcz46_1, hcz46_2, hcz46_3, hcz46_4, hcz46_5, hfz46_0, hfz46_1, hfz46_2, hfz46_3, hfz46_4, hfz46_5⟩ := cz6 BK326; refine ?roundEnd))
  case roundEnd =>
  by_cases c3 : t327 = true
  rotate_left
  · replace c3 := Bool.eq_false_iff.mpr c3
    subst c3
    try rw [if_neg (show ¬ (false = true) by decide)] at H
    obtain rfl := Option.some.inj H
    go_wp2_with (first | ((with_reducible refine uE (f := 86) rfl ?_); refine uL (some 5) Tryd.func86 #[.agg #[.int .i64 a0_0, .int .i64 a0_1, .int .i64 a0_2, .int .i64 a0_3, .int .i64 a0_4, .int .i64 a0_5]] ?_; (with_reducible refine (impl_IsValidOp.calls a0_0 a0_1 a0_2 a0_3 a0_4 a0_5 false _ A2.out).mono ?_); rintro e w47 ⟨rfl, hb⟩; refine ⟨_, rfl, ?_⟩; replace BK326 := tBlk BK326 hb; replace HB := uQ HB hb; (try clear hb); (try clear hb2); (try clear hk); (try clear hi)))
    go_ret
    exact ⟨q2, q3⟩
  subst c3
  try rw [if_pos rfl] at H
  replace H := Option.bind_eq_some_iff.mp H
  obtain ⟨t328, A40, H⟩ := H
  try dsimp only at H
  have A4 := Aside0.mk A40
  clear A40
  go_wp2_with (first | ((with_reducible refine uE (f := 86) rfl ?_); refine uL (some 5) Tryd.func86 #[.agg #[.int .i64 a0_0, .int .i64 a0_1, .int .i64 a0_2, .int .i64 a0_3, .int .i64 a0_4, .int .i64 a0_5]] ?_; (with_reducible refine (impl_IsValidOp.calls a0_0 a0_1 a0_2 a0_3 a0_4 a0_5 true _ A2.out).mono ?_); rintro e w37 ⟨rfl, hb⟩; refine ⟨_, rfl, ?_⟩; replace BK326 := tBlk BK326 hb; replace HB := uQ HB hb; (try clear hb); (try clear hb2); (try clear hk); (try clear hi); refine ?roundEnd))
  case roundEnd =>
  by_cases c5 : t328.size + 1 ≤ 9223372036854775807
  rotate_left
  · rw [if_neg c5] at H
    exact absurd H (by simp)
  rw [if_pos c5] at H
  have c5b0 := eq_true c5
  have c5b1 : decide (t328.size + 1 ≤ 9223372036854775807) = true := decide_eq_true c5
  try have c5b2 : (9223372036854775807 < t328.size + 1) = False := eq_false (Nat.not_lt.2 c5)
  replace H := Option.bind_eq_some_iff.mp H
  obtain ⟨t329, A60, H⟩ := H
  try dsimp only at H
  have A6 := Aside0.mk A60
  clear A60
  by_cases c7 : (t328 ++ (⟨#[46]⟩ : ByteArray)).size + t329.size ≤ 9223372036854775807
  rotate_left
  · rw [if_neg c7] at H
    exact absurd H (by simp)
  rw [if_pos c7] at H
  have c7b0 := eq_true c7
  have c7b1 : decide ((t328 ++ (⟨#[46]⟩ : ByteArray)).size + t329.size ≤ 9223372036854775807) = true := decide_eq_true c7
  try have c7b2 : (9223372036854775807 < (t328 ++ (⟨#[46]⟩ : ByteArray)).size + t329.size) = False := eq_false (Nat.not_lt.2 c7)
  have c7b3 : (9223372036854775807 < t328.size + 1 + t329.size) = False := eq_false (Nat.not_lt.2 (by have z_ := c7; (repeat rw [ByteArray.size_append] at z_); exact z_))
  by_cases c8 : a0_2 = 2
  rotate_left
  · rw [if_neg c8] at H
    have c8b0 : (a0_2 == 2) = false := beq_eq_false_iff_ne.mpr c8
    have c8b1 : (a0_2 != 2) = true := bne_iff_ne.mpr c8
    by_cases c29 : ((t328 ++ (⟨#[46]⟩ : ByteArray)) ++ t329).size + 7 ≤ 9223372036854775807
    rotate_left
    · rw [if_neg c29] at H
      exact absurd H (by simp)
    rw [if_pos c29] at H
    have c29b0 := eq_true c29
    have c29b1 : decide (((t328 ++ (⟨#[46]⟩ : ByteArray)) ++ t329).size + 7 ≤ 9223372036854775807) = true := decide_eq_true c29
    try have c29b2 : (9223372036854775807 < ((t328 ++ (⟨#[46]⟩ : ByteArray)) ++ t329).size + 7) = False := eq_false (Nat.not_lt.2 c29)
    have c29b3 : (9223372036854775807 < t328.size + 1 + t329.size + 7) = False := eq_false (Nat.not_lt.2 (by have z_ := c29; (repeat rw [ByteArray.size_append] at z_); exact z_))
    replace H := Option.bind_eq_some_iff.mp H
    obtain ⟨t333, A300, H⟩ := H
    try dsimp only at H
    have A30 := Aside0.mk A300
    clear A300
    by_cases c31 : (((t328 ++ (⟨#[46]⟩ : ByteArray)) ++ t329) ++ (⟨#[32, 119, 114, 105, 116, 101, 32]⟩ : ByteArray)).size + t333.size ≤ 9223372036854775807
    rotate_left
    · rw [if_neg c31] at H
      exact absurd H (by simp)
    rw [if_pos c31] at H
    have c31b0 := eq_true c31
    have c31b1 : decide ((((t328 ++ (⟨#[46]⟩ : ByteArray)) ++ t329) ++ (⟨#[32, 119, 114, 105, 116, 101, 32]⟩ : ByteArray)).size + t333.size ≤ 9223372036854775807) = true := decide_eq_true c31
    try have c31b2 : (9223372036854775807 < (((t328 ++ (⟨#[46]⟩ : ByteArray)) ++ t329) ++ (⟨#[32, 119, 114, 105, 116, 101, 32]⟩ : ByteArray)).size + t333.size) = False := eq_false (Nat.not_lt.2 c31)
    have c31b3 : (9223372036854775807 < t328.size + 1 + t329.size + 7 + t333.size) = False := eq_false (Nat.not_lt.2 (by have z_ := c31; (repeat rw [ByteArray.size_append] at z_); exact z_))
    by_cases c32 : ((((t328 ++ (⟨#[46]⟩ : ByteArray)) ++ t329) ++ (⟨#[32, 119, 114, 105, 116, 101, 32]⟩ : ByteArray)) ++ t333).size + 1 ≤ 9223372036854775807
    rotate_left
    · rw [if_neg c32] at H
      exact absurd H (by simp)
    rw [if_pos c32] at H
    have c32b0 := eq_true c32
    have c32b1 : decide (((((t328 ++ (⟨#[46]⟩ : ByteArray)) ++ t329) ++ (⟨#[32, 119, 114, 105, 116, 101, 32]⟩ : ByteArray)) ++ t333).size + 1 ≤ 9223372036854775807) = true := decide_eq_true c32
    try have c32b2 : (9223372036854775807 < ((((t328 ++ (⟨#[46]⟩ : ByteArray)) ++ t329) ++ (⟨#[32, 119, 114, 105, 116, 101, 32]⟩ : ByteArray)) ++ t333).size + 1) = False := eq_false (Nat.not_lt.2 c32)
    have c32b3 : (9223372036854775807 < t328.size + 1 + t329.size + 7 + t333.size + 1) = False := eq_false (Nat.not_lt.2 (by have z_ := c32; (repeat rw [ByteArray.size_append] at z_); exact z_))
    replace H := Option.bind_eq_some_iff.mp H
    obtain ⟨t334, A330, H⟩ := H
    try dsimp only at H
    have A33 := Aside0.mk A330
    clear A330
    by_cases c34 : (((((t328 ++ (⟨#[46]⟩ : ByteArray)) ++ t329) ++ (⟨#[32, 119, 114, 105, 116, 101, 32]⟩ : ByteArray)) ++ t333) ++ (⟨#[32]⟩ : ByteArray)).size + t334.size ≤ 9223372036854775807
    rotate_left
    · rw [if_neg c34] at H
      exact absurd H (by simp)
    rw [if_pos c34] at H
    have c34b0 := eq_true c34
    have c34b1 : decide ((((((t328 ++ (⟨#[46]⟩ : ByteArray)) ++ t329) ++ (⟨#[32, 119, 114, 105, 116, 101, 32]⟩ : ByteArray)) ++ t333) ++ (⟨#[32]⟩ : ByteArray)).size + t334.size ≤ 9223372036854775807) = true := decide_eq_true c34
    try have c34b2 : (9223372036854775807 < (((((t328 ++ (⟨#[46]⟩ : ByteArray)) ++ t329) ++ (⟨#[32, 119, 114, 105, 116, 101, 32]⟩ : ByteArray)) ++ t333) ++ (⟨#[32]⟩ : ByteArray)).size + t334.size) = False := eq_false (Nat.not_lt.2 c34)
    have c34b3 : (9223372036854775807 < t328.size + 1 + t329.size + 7 + t333.size + 1 + t334.size) = False := eq_false (Nat.not_lt.2 (by have z_ := c34; (repeat rw [ByteArray.size_append] at z_); exact z_))
    obtain rfl := Option.some.inj H
    try go_wp2
    replace BK326 := Aside0.mk (uI BK326.out)
    replace HB := Aside0.mk (below_drew1 HB.out)
    refine start_ (n := 9) (S := fun w' => w'.cell? ⟨gb326, 0, none⟩ = some (.int .i64 a0_0) ∧ w'.cell? ⟨gb326, 1, none⟩ = some (.int .i64 a0_1) ∧ w'.cell? ⟨gb326, 2, none⟩ = some (.int .i64 a0_2) ∧ w'.cell? ⟨gb326, 3, none⟩ = some (.int .i64 a0_3) ∧ w'.cell? ⟨gb326, 4, none⟩ = some (.int .i64 a0_4) ∧ w'.cell? ⟨gb326, 5, none⟩ = some (.int .i64 a0_5)) (ds := []) tb48 (by kernel_rfl) rfl rfl ⟨(uA BK326.out 0).trans rfl, (uA BK326.out 1).trans rfl, (uA BK326.out 2).trans rfl, (uA BK326.out 3).trans rfl, (uA BK326.out 4).trans rfl, (uA BK326.out 5).trans rfl⟩ (fun hHeld => ?_); refine with_tabW impl_FormatOp.tab3 impl_FormatOp.bits3 (fun HT_ HW_ => ?_)
    generalize w37.drew = w38 at BK326 HB hHeld ⊢
    refine uC (i := 0) (N := some 7) (v := ?_) (a' := ?_) tb51 rfl rfl (uK HT_.out (by kernel_rfl)) (fun _ _ _ h => h) (Or.inl ⟨by rfl, ?_⟩) ?_ ?_
    rotate_left
    · intro w'
      go_simp
      with_reducible rfl
    rotate_left
    · simp only [Act.put, uY, uZ, vA, uB, uD]
      rfl
    refine uC (i := 4) (N := some 11) (v := ?_) (a' := ?_) tb55 rfl rfl (uK HT_.out (by kernel_rfl)) (fun _ _ _ h => h) (Or.inl ⟨by rfl, ?_⟩) ?_ ?_
    rotate_left
    · intro w'
      go_simp
      with_reducible rfl
    rotate_left
    · simp only [Act.put, uY, uZ, vA, uB, uD]
      rfl
    refine take_ (i := 1) (N := some 8) (v := ?_) (a' := ?_) tb59 rfl rfl (take_ofW HT_.out HW_.out (by kernel_rfl)) (fun _ _ _ h => h) (Or.inl ⟨by rfl, ?_⟩) hHeld ?_ ?_
    rotate_left
    · rintro w' ⟨s0, s1, s2, s3, s4, s5⟩
      go_simp
      with_reducible rfl
    rotate_left
    · simp only [Act.put, uY, uZ, vA, uB, uD]
      rfl
    refine take_ (i := 5) (N := some 12) (v := ?_) (a' := ?_) tb63 rfl rfl (take_ofW HT_.out HW_.out (by kernel_rfl)) (fun _ _ _ h => h) (Or.inl ⟨by rfl, ?_⟩) hHeld ?_ ?_
    rotate_left
    · rintro w' ⟨s0, s1, s2, s3, s4, s5⟩
      go_simp
      with_reducible rfl
    rotate_left
    · simp only [Act.put, uY, uZ, vA, uB, uD]
      rfl
    refine one_ (i := 2) (N := some 9) tb66 rfl rfl (one_of HT_.out (by kernel_rfl)) (by decide) (fun K hK => ?_)
    refine goes_ Tryd.func87 (by kernel_rfl) rfl #[.int .i64 a0_0] (by rfl) rfl rfl q8 ?_
    with_reducible refine (impl_FormatInt.calls a0_0 t328 _ ?side1 A4.out).mono ?_
    (case side1 => exact q15)
    rintro e w39 ⟨rfl, hb⟩
    refine ⟨_, rfl, ?_⟩
    replace BK326 := tBlk BK326 hb
    replace HB := uQ HB hb
    (try clear hb)
    (try clear hb2)
    (try clear hk)
    (try clear hi)
    refine hK.out _ _ ⟨(uA BK326.out 0).trans rfl, (uA BK326.out 1).trans rfl, (uA BK326.out 2).trans rfl, (uA BK326.out 3).trans rfl, (uA BK326.out 4).trans rfl, (uA BK326.out 5).trans rfl⟩ (fun hHeld => ?_)
    clear hK K
    refine norm_ (a' := ?_) ?_ ?_
    rotate_left
    · show Act.put _ (some 9) _ = _
      simp only [Act.put, uY, uZ, vA, uB, uD]
      rfl
    refine uC (i := 3) (N := some 10) (v := ?_) (a' := ?_) tb69 rfl rfl (uK HT_.out (by kernel_rfl)) (fun _ _ _ h => h) (Or.inl ⟨by rfl, ?_⟩) ?_ ?_
    rotate_left
    · intro w'
      go_simp
      with_reducible rfl
    rotate_left
    · simp only [Act.put, uY, uZ, vA, uB, uD]
      rfl
    refine one_ (i := 6) (N := some 13) tb72 rfl rfl (one_of HT_.out (by kernel_rfl)) (by decide) (fun K hK => ?_)
    refine goes_ Tryd.func87 (by kernel_rfl) rfl #[.int .i64 a0_1] (by rfl) rfl rfl q8 ?_
    with_reducible refine (impl_FormatInt.calls a0_1 t329 _ ?side1 A6.out).mono ?_
    (case side1 => exact q15)
    rintro e w40 ⟨rfl, hb⟩
    refine ⟨_, rfl, ?_⟩
    replace BK326 := tBlk BK326 hb
    replace HB := uQ HB hb
    (try clear hb)
    (try clear hb2)
    (try clear hk)
    (try clear hi)
    refine hK.out _ _ ⟨(uA BK326.out 0).trans rfl, (uA BK326.out 1).trans rfl, (uA BK326.out 2).trans rfl, (uA BK326.out 3).trans rfl, (uA BK326.out 4).trans rfl, (uA BK326.out 5).trans rfl⟩ (fun hHeld => ?_)
    clear hK K
    refine norm_ (a' := ?_) ?_ ?_
    rotate_left
    · show Act.put _ (some 13) _ = _
      simp only [Act.put, uY, uZ, vA, uB, uD]
      rfl
    refine uC (i := 7) (N := some 14) (v := ?_) (a' := ?_) tb75 rfl rfl (uK HT_.out (by kernel_rfl)) (fun _ _ _ h => h) (Or.inl ⟨by rfl, ?_⟩) ?_ ?_
    rotate_left
    · intro w'
      go_simp
      with_reducible rfl
    rotate_left
    · simp only [Act.put, uY, uZ, vA, uB, uD]
      rfl
    refine uC (i := 8) (N := some 3) (v := ?_) (a' := ?_) tb78 rfl rfl (uK HT_.out (by kernel_rfl)) (fun _ _ _ h => h) (Or.inl ⟨by rfl, ?_⟩) ?_ ?_
    rotate_left
    · intro w'
      go_simp
      with_reducible rfl
    rotate_left
    · simp only [Act.put, uY, uZ, vA, uB, uD]
      rfl
    refine done_ (done_of HT_.out (by kernel_rfl)) ?_
    obtain ⟨hcz41_0, hcz41_1, hcz41_2, hcz41_3, hcz41_4, hcz41_5, hfz41_0, hfz41_1, hfz41_2, hfz41_3, hfz41_4, hfz41_5⟩ := cz6 BK326
    try go_wp2
    replace BK326 := Aside0.mk (uI BK326.out)
    replace HB := Aside0.mk (below_drew1 HB.out)
    refine start_ (n := 12) (S := fun w' => w'.cell? ⟨gb326, 0, none⟩ = some (.int .i64 a0_0) ∧ w'.cell? ⟨gb326, 1, none⟩ = some (.int .i64 a0_1) ∧ w'.cell? ⟨gb326, 2, none⟩ = some (.int .i64 a0_2) ∧ w'.cell? ⟨gb326, 3, none⟩ = some (.int .i64 a0_3) ∧ w'.cell? ⟨gb326, 4, none⟩ = some (.int .i64 a0_4) ∧ w'.cell? ⟨gb326, 5, none⟩ = some (.int .i64 a0_5)) (ds := []) tb8 (by kernel_rfl) rfl rfl ⟨(uA BK326.out 0).trans rfl, (uA BK326.out 1).trans rfl, (uA BK326.out 2).trans rfl, (uA BK326.out 3).trans rfl, (uA BK326.out 4).trans rfl, (uA BK326.out 5).trans rfl⟩ (fun hHeld => ?_); refine with_tabW impl_FormatOp.tab6 impl_FormatOp.bits6 (fun HT_ HW_ => ?_)
    generalize w40.drew = w42 at BK326 HB hHeld ⊢
    refine uC (i := 0) (N := some 34) (v := ?_) (a' := ?_) tb9 rfl rfl (uK HT_.out (by kernel_rfl)) (fun _ _ _ h => h) (Or.inl ⟨by rfl, ?_⟩) ?_ ?_
    rotate_left
    · intro w'
      go_simp
      with_reducible rfl
    rotate_left
    · simp only [Act.put, uY, uZ, vA, uB, uD]
      rfl
    refine uC (i := 1) (N := some 35) (v := ?_) (a' := ?_) tb10 rfl rfl (uK HT_.out (by kernel_rfl)) (fun _ _ _ h => h) (Or.inl ⟨by rfl, ?_⟩) ?_ ?_
    rotate_left
    · intro w'
      go_simp
      with_reducible rfl
    rotate_left
    · simp only [Act.put, uY, uZ, vA, uB, uD]
      rfl
    refine uC (i := 2) (N := some 36) (v := ?_) (a' := ?_) tb35 rfl rfl (uK HT_.out (by kernel_rfl)) (fun _ _ _ h => h) (Or.inl ⟨by rfl, ?_⟩) ?_ ?_
    rotate_left
    · intro w'
      go_simp
      with_reducible rfl
    rotate_left
    · simp only [Act.put, uY, uZ, vA, uB, uD]
      rfl
    refine uC (i := 7) (N := some 41) (v := ?_) (a' := ?_) tb36 rfl rfl (uK HT_.out (by kernel_rfl)) (fun _ _ _ h => h) (Or.inl ⟨by rfl, ?_⟩) ?_ ?_
    rotate_left
    · intro w'
      go_simp
      with_reducible rfl
    rotate_left
    · simp only [Act.put, uY, uZ, vA, uB, uD]
      rfl
    refine take_ (i := 3) (N := some 37) (v := ?_) (a' := ?_) tb37 rfl rfl (take_ofW HT_.out HW_.out (by kernel_rfl)) (fun _ _ _ h => h) (Or.inl ⟨by rfl, ?_⟩) hHeld ?_ ?_
    rotate_left
    · rintro w' ⟨s0, s1, s2, s3, s4, s5⟩
      go_simp
      with_reducible rfl
    rotate_left
    · simp only [Act.put, uY, uZ, vA, uB, uD]
      rfl
    refine take_ (i := 8) (N := some 42) (v := ?_) (a' := ?_) tb38 rfl rfl (take_ofW HT_.out HW_.out (by kernel_rfl)) (fun _ _ _ h => h) (Or.inl ⟨by rfl, ?_⟩) hHeld ?_ ?_
    rotate_left
    · rintro w' ⟨s0, s1, s2, s3, s4, s5⟩
      go_simp
      with_reducible rfl
    rotate_left
    · simp only [Act.put, uY, uZ, vA, uB, uD]
      rfl
    refine one_ (i := 4) (N := some 38) tb39 rfl rfl (one_of HT_.out (by kernel_rfl)) (by decide) (fun K hK => ?_)
    refine goes_ Tryd.func87 (by kernel_rfl) rfl #[.int .i64 a0_3] (by rfl) rfl rfl q8 ?_
    with_reducible refine (impl_FormatInt.calls a0_3 t333 _ ?side1 A30.out).mono ?_
    (case side1 => exact q15)
    rintro e w43 ⟨rfl, hb⟩
    refine ⟨_, rfl, ?_⟩
    replace BK326 := tBlk BK326 hb
    replace HB := uQ HB hb
    (try clear hb)
    (try clear hb2)
    (try clear hk)
    (try clear hi)
    refine hK.out _ _ ⟨(uA BK326.out 0).trans rfl, (uA BK326.out 1).trans rfl, (uA BK326.out 2).trans rfl, (uA BK326.out 3).trans rfl, (uA BK326.out 4).trans rfl, (uA BK326.out 5).trans rfl⟩ (fun hHeld => ?_)
    clear hK K
    refine norm_ (a' := ?_) ?_ ?_
    rotate_left
    · show Act.put _ (some 38) _ = _
      simp only [Act.put, uY, uZ, vA, uB, uD]
      rfl
    refine uC (i := 5) (N := some 39) (v := ?_) (a' := ?_) tb40 rfl rfl (uK HT_.out (by kernel_rfl)) (fun _ _ _ h => h) (Or.inl ⟨by rfl, ?_⟩) ?_ ?_
    rotate_left
    · intro w'
      go_simp
      with_reducible rfl
    rotate_left
    · simp only [Act.put, uY, uZ, vA, uB, uD]
      rfl
    refine uC (i := 6) (N := some 40) (v := ?_) (a' := ?_) tb16 rfl rfl (uK HT_.out (by kernel_rfl)) (fun _ _ _ h => h) (Or.inl ⟨by rfl, ?_⟩) ?_ ?_
    rotate_left
    · intro w'
      go_simp
      with_reducible rfl
    rotate_left
    · simp only [Act.put, uY, uZ, vA, uB, uD]
      rfl
    refine one_ (i := 9) (N := some 43) tb20 rfl rfl (one_of HT_.out (by kernel_rfl)) (by decide) (fun K hK => ?_)
    refine goes_ Tryd.func87 (by kernel_rfl) rfl #[.int .i64 a0_5] (by rfl) rfl rfl q8 ?_
    with_reducible refine (impl_FormatInt.calls a0_5 t334 _ ?side1 A33.out).mono ?_
    (case side1 => exact q15)
    rintro e w44 ⟨rfl, hb⟩
    refine ⟨_, rfl, ?_⟩
    replace BK326 := tBlk BK326 hb
    replace HB := uQ HB hb
    (try clear hb)
    (try clear hb2)
    (try clear hk)
    (try clear hi)
    refine hK.out _ _ ⟨(uA BK326.out 0).trans rfl, (uA BK326.out 1).trans rfl, (uA BK326.out 2).trans rfl, (uA BK326.out 3).trans rfl, (uA BK326.out 4).trans rfl, (uA BK326.out 5).trans rfl⟩ (fun hHeld => ?_)
    clear hK K
    refine norm_ (a' := ?_) ?_ ?_
    rotate_left
    · show Act.put _ (some 43) _ = _
      simp only [Act.put, uY, uZ, vA, uB, uD]
      rfl
    refine uC (i := 10) (N := some 44) (v := ?_) (a' := ?_) tb24 rfl rfl (uK HT_.out (by kernel_rfl)) (fun _ _ _ h => h) (Or.inl ⟨by rfl, ?_⟩) ?_ ?_
    rotate_left
    · intro w'
      go_simp
      with_reducible rfl
    rotate_left
    · simp only [Act.put, uY, uZ, vA, uB, uD]
      rfl
    refine uC (i := 11) (N := some 2) (v := ?_) (a' := ?_) tb28 rfl rfl (uK HT_.out (by kernel_rfl)) (fun _ _ _ h => h) (Or.inl ⟨by rfl, ?_⟩) ?_ ?_
    rotate_left
    · intro w'
      go_simp
      with_reducible rfl
    rotate_left
    · simp only [Act.put, uY, uZ, vA, uB, uD]
      rfl
    refine done_ (done_of HT_.out (by kernel_rfl)) ?_
    try go_wp2
    go_ret
    exact ⟨q2, q3⟩
  rw [if_pos c8] at H
  have c8b0 : (a0_2 == 2) = true := beq_iff_eq.mpr c8
  have c8b1 : (a0_2 != 2) = false := bne_eq_false_iff_eq.mpr c8
  clear c8
  by_cases c9 : ((t328 ++ (⟨#[46]⟩ : ByteArray)) ++ t329).size + 6 ≤ 9223372036854775807
  rotate_left
  · rw [if_neg c9] at H
    exact absurd H (by simp)
  rw [if_pos c9] at H
  have c9b0 := eq_true c9
  have c9b1 : decide (((t328 ++ (⟨#[46]⟩ : ByteArray)) ++ t329).size + 6 ≤ 9223372036854775807) = true := decide_eq_true c9
  try have c9b2 : (9223372036854775807 < ((t328 ++ (⟨#[46]⟩ : ByteArray)) ++ t329).size + 6) = False := eq_false (Nat.not_lt.2 c9)
  have c9b3 : (9223372036854775807 < t328.size + 1 + t329.size + 6) = False := eq_false (Nat.not_lt.2 (by have z_ := c9; (repeat rw [ByteArray.size_append] at z_); exact z_))
  replace H := Option.bind_eq_some_iff.mp H
  obtain ⟨t330, A100, H⟩ := H
  try dsimp only at H
  have A10 := Aside0.mk A100
  clear A100
  by_cases c11 : (((t328 ++ (⟨#[46]⟩ : ByteArray)) ++ t329) ++ (⟨#[32, 115, 119, 97, 112, 32]⟩ : ByteArray)).size + t330.size ≤ 9223372036854775807
  rotate_left
  · rw [if_neg c11] at H
    exact absurd H (by simp)
  rw [if_pos c11] at H
  have c11b0 := eq_true c11
  have c11b1 : decide ((((t328 ++ (⟨#[46]⟩ : ByteArray)) ++ t329) ++ (⟨#[32, 115, 119, 97, 112, 32]⟩ : ByteArray)).size + t330.size ≤ 9223372036854775807) = true := decide_eq_true c11
  try have c11b2 : (9223372036854775807 < (((t328 ++ (⟨#[46]⟩ : ByteArray)) ++ t329) ++ (⟨#[32, 115, 119, 97, 112, 32]⟩ : ByteArray)).size + t330.size) = False := eq_false (Nat.not_lt.2 c11)
  have c11b3 : (9223372036854775807 < t328.size + 1 + t329.size + 6 + t330.size) = False := eq_false (Nat.not_lt.2 (by have z_ := c11; (repeat rw [ByteArray.size_append] at z_); exact z_))
  by_cases c12 : ((((t328 ++ (⟨#[46]⟩ : ByteArray)) ++ t329) ++ (⟨#[32, 115, 119, 97, 112, 32]⟩ : ByteArray)) ++ t330).size + 1 ≤ 9223372036854775807
  rotate_left
  · rw [if_neg c12] at H
    exact absurd H (by simp)
  rw [if_pos c12] at H
  have c12b0 := eq_true c12
  have c12b1 : decide (((((t328 ++ (⟨#[46]⟩ : ByteArray)) ++ t329) ++ (⟨#[32, 115, 119, 97, 112, 32]⟩ : ByteArray)) ++ t330).size + 1 ≤ 9223372036854775807) = true := decide_eq_true c12
  try have c12b2 : (9223372036854775807 < ((((t328 ++ (⟨#[46]⟩ : ByteArray)) ++ t329) ++ (⟨#[32, 115, 119, 97, 112, 32]⟩ : ByteArray)) ++ t330).size + 1) = False := eq_false (Nat.not_lt.2 c12)
  have c12b3 : (9223372036854775807 < t328.size + 1 + t329.size + 6 + t330.size + 1) = False := eq_false (Nat.not_lt.2 (by have z_ := c12; (repeat rw [ByteArray.size_append] at z_); exact z_))
  replace H := Option.bind_eq_some_iff.mp H
  obtain ⟨t331, A130, H⟩ := H
  try dsimp only at H
  have A13 := Aside0.mk A130
  clear A130
  by_cases c14 : (((((t328 ++ (⟨#[46]⟩ : ByteArray)) ++ t329) ++ (⟨#[32, 115, 119, 97, 112, 32]⟩ : ByteArray)) ++ t330) ++ (⟨#[32]⟩ : ByteArray)).size + t331.size ≤ 9223372036854775807
  rotate_left
  · rw [if_neg c14] at H
    exact absurd H (by simp)
  rw [if_pos c14] at H
  have c14b0 := eq_true c14
  have c14b1 : decide ((((((t328 ++ (⟨#[46]⟩ : ByteArray)) ++ t329) ++ (⟨#[32, 115, 119, 97, 112, 32]⟩ : ByteArray)) ++ t330) ++ (⟨#[32]⟩ : ByteArray)).size + t331.size ≤ 9223372036854775807) = true := decide_eq_true c14
  try have c14b2 : (9223372036854775807 < (((((t328 ++ (⟨#[46]⟩ : ByteArray)) ++ t329) ++ (⟨#[32, 115, 119, 97, 112, 32]⟩ : ByteArray)) ++ t330) ++ (⟨#[32]⟩ : ByteArray)).size + t331.size) = False := eq_false (Nat.not_lt.2 c14)
  have c14b3 : (9223372036854775807 < t328.size + 1 + t329.size + 6 + t330.size + 1 + t331.size) = False := eq_false (Nat.not_lt.2 (by have z_ := c14; (repeat rw [ByteArray.size_append] at z_); exact z_))
  by_cases c15 : ((((((t328 ++ (⟨#[46]⟩ : ByteArray)) ++ t329) ++ (⟨#[32, 115, 119, 97, 112, 32]⟩ : ByteArray)) ++ t330) ++ (⟨#[32]⟩ : ByteArray)) ++ t331).size + 1 ≤ 9223372036854775807
  rotate_left
  · rw [if_neg c15] at H
    exact absurd H (by simp)
  rw [if_pos c15] at H
  have c15b0 := eq_true c15
  have c15b1 : decide (((((((t328 ++ (⟨#[46]⟩ : ByteArray)) ++ t329) ++ (⟨#[32, 115, 119, 97, 112, 32]⟩ : ByteArray)) ++ t330) ++ (⟨#[32]⟩ : ByteArray)) ++ t331).size + 1 ≤ 9223372036854775807) = true := decide_eq_true c15
  try have c15b2 : (9223372036854775807 < ((((((t328 ++ (⟨#[46]⟩ : ByteArray)) ++ t329) ++ (⟨#[32, 115, 119, 97, 112, 32]⟩ : ByteArray)) ++ t330) ++ (⟨#[32]⟩ : ByteArray)) ++ t331).size + 1) = False := eq_false (Nat.not_lt.2 c15)
  have c15b3 : (9223372036854775807 < t328.size + 1 + t329.size + 6 + t330.size + 1 + t331.size + 1) = False := eq_false (Nat.not_lt.2 (by have z_ := c15; (repeat rw [ByteArray.size_append] at z_); exact z_))
  replace H := Option.bind_eq_some_iff.mp H
  obtain ⟨t332, A160, H⟩ := H
  try dsimp only at H
  have A16 := Aside0.mk A160
  clear A160
  by_cases c17 : (((((((t328 ++ (⟨#[46]⟩ : ByteArray)) ++ t329) ++ (⟨#[32, 115, 119, 97, 112, 32]⟩ : ByteArray)) ++ t330) ++ (⟨#[32]⟩ : ByteArray)) ++ t331) ++ (⟨#[32]⟩ : ByteArray)).size + t332.size ≤ 9223372036854775807
  rotate_left
  · rw [if_neg c17] at H
    exact absurd H (by simp)
  rw [if_pos c17] at H
  have c17b0 := eq_true c17
  have c17b1 : decide ((((((((t328 ++ (⟨#[46]⟩ : ByteArray)) ++ t329) ++ (⟨#[32, 115, 119, 97, 112, 32]⟩ : ByteArray)) ++ t330) ++ (⟨#[32]⟩ : ByteArray)) ++ t331) ++ (⟨#[32]⟩ : ByteArray)).size + t332.size ≤ 9223372036854775807) = true := decide_eq_true c17
  try have c17b2 : (9223372036854775807 < (((((((t328 ++ (⟨#[46]⟩ : ByteArray)) ++ t329) ++ (⟨#[32, 115, 119, 97, 112, 32]⟩ : ByteArray)) ++ t330) ++ (⟨#[32]⟩ : ByteArray)) ++ t331) ++ (⟨#[32]⟩ : ByteArray)).size + t332.size) = False := eq_false (Nat.not_lt.2 c17)
  have c17b3 : (9223372036854775807 < t328.size + 1 + t329.size + 6 + t330.size + 1 + t331.size + 1 + t332.size) = False := eq_false (Nat.not_lt.2 (by have z_ := c17; (repeat rw [ByteArray.size_append] at z_); exact z_))
  obtain rfl := Option.some.inj H
  try go_wp2
  replace BK326 := Aside0.mk (uI BK326.out)
  replace HB := Aside0.mk (below_drew1 HB.out)
  refine start_ (n := 9) (S := fun w' => w'.cell? ⟨gb326, 0, none⟩ = some (.int .i64 a0_0) ∧ w'.cell? ⟨gb326, 1, none⟩ = some (.int .i64 a0_1) ∧ w'.cell? ⟨gb326, 2, none⟩ = some (.int .i64 a0_2) ∧ w'.cell? ⟨gb326, 3, none⟩ = some (.int .i64 a0_3) ∧ w'.cell? ⟨gb326, 4, none⟩ = some (.int .i64 a0_4) ∧ w'.cell? ⟨gb326, 5, none⟩ = some (.int .i64 a0_5)) (ds := []) tb48 (by kernel_rfl) rfl rfl ⟨(uA BK326.out 0).trans rfl, (uA BK326.out 1).trans rfl, (uA BK326.out 2).trans rfl, (uA BK326.out 3).trans rfl, (uA BK326.out 4).trans rfl, (uA BK326.out 5).trans rfl⟩ (fun hHeld => ?_); refine with_tabW impl_FormatOp.tab3 impl_FormatOp.bits3 (fun HT_ HW_ => ?_)
  generalize w37.drew = w21 at BK326 HB hHeld ⊢
  refine uC (i := 0) (N := some 7) (v := ?_) (a' := ?_) tb51 rfl rfl (uK HT_.out (by kernel_rfl)) (fun _ _ _ h => h) (Or.inl ⟨by rfl, ?_⟩) ?_ ?_
  rotate_left
  · intro w'
    go_simp
    with_reducible rfl
  rotate_left
  · simp only [Act.put, uY, uZ, vA, uB, uD]
    rfl
  refine uC (i := 4) (N := some 11) (v := ?_) (a' := ?_) tb55 rfl rfl (uK HT_.out (by kernel_rfl)) (fun _ _ _ h => h) (Or.inl ⟨by rfl, ?_⟩) ?_ ?_
  rotate_left
  · intro w'
    go_simp
    with_reducible rfl
  rotate_left
  · simp only [Act.put, uY, uZ, vA, uB, uD]
    rfl
  refine take_ (i := 1) (N := some 8) (v := ?_) (a' := ?_) tb59 rfl rfl (take_ofW HT_.out HW_.out (by kernel_rfl)) (fun _ _ _ h => h) (Or.inl ⟨by rfl, ?_⟩) hHeld ?_ ?_
  rotate_left
  · rintro w' ⟨s0, s1, s2, s3, s4, s5⟩
    go_simp
    with_reducible rfl
  rotate_left
  · simp only [Act.put, uY, uZ, vA, uB, uD]
    rfl
  refine take_ (i := 5) (N := some 12) (v := ?_) (a' := ?_) tb63 rfl rfl (take_ofW HT_.out HW_.out (by kernel_rfl)) (fun _ _ _ h => h) (Or.inl ⟨by rfl, ?_⟩) hHeld ?_ ?_
  rotate_left
  · rintro w' ⟨s0, s1, s2, s3, s4, s5⟩
    go_simp
    with_reducible rfl
  rotate_left
  · simp only [Act.put, uY, uZ, vA, uB, uD]
    rfl
  refine one_ (i := 2) (N := some 9) tb66 rfl rfl (one_of HT_.out (by kernel_rfl)) (by decide) (fun K hK => ?_)
  refine goes_ Tryd.func87 (by kernel_rfl) rfl #[.int .i64 a0_0] (by rfl) rfl rfl q8 ?_
  with_reducible refine (impl_FormatInt.calls a0_0 t328 _ ?side1 A4.out).mono ?_
  (case side1 => exact q15)
  rintro e w22 ⟨rfl, hb⟩
  refine ⟨_, rfl, ?_⟩
  replace BK326 := tBlk BK326 hb
  replace HB := uQ HB hb
  (try clear hb)
  (try clear hb2)
  (try clear hk)
  (try clear hi)
  refine hK.out _ _ ⟨(uA BK326.out 0).trans rfl, (uA BK326.out 1).trans rfl, (uA BK326.out 2).trans rfl, (uA BK326.out 3).trans rfl, (uA BK326.out 4).trans rfl, (uA BK326.out 5).trans rfl⟩ (fun hHeld => ?_)
  clear hK K
  refine norm_ (a' := ?_) ?_ ?_
  rotate_left
  · show Act.put _ (some 9) _ = _
    simp only [Act.put, uY, uZ, vA, uB, uD]
    rfl
  refine uC (i := 3) (N := some 10) (v := ?_) (a' := ?_) tb69 rfl rfl (uK HT_.out (by kernel_rfl)) (fun _ _ _ h => h) (Or.inl ⟨by rfl, ?_⟩) ?_ ?_
  rotate_left
  · intro w'
    go_simp
    with_reducible rfl
  rotate_left
  · simp only [Act.put, uY, uZ, vA, uB, uD]
    rfl
  refine one_ (i := 6) (N := some 13) tb72 rfl rfl (one_of HT_.out (by kernel_rfl)) (by decide) (fun K hK => ?_)
  refine goes_ Tryd.func87 (by kernel_rfl) rfl #[.int .i64 a0_1] (by rfl) rfl rfl q8 ?_
  with_reducible refine (impl_FormatInt.calls a0_1 t329 _ ?side1 A6.out).mono ?_
  (case side1 => exact q15)
  rintro e w23 ⟨rfl, hb⟩
  refine ⟨_, rfl, ?_⟩
  replace BK326 := tBlk BK326 hb
  replace HB := uQ HB hb
  (try clear hb)
  (try clear hb2)
  (try clear hk)
  (try clear hi)
  refine hK.out _ _ ⟨(uA BK326.out 0).trans rfl, (uA BK326.out 1).trans rfl, (uA BK326.out 2).trans rfl, (uA BK326.out 3).trans rfl, (uA BK326.out 4).trans rfl, (uA BK326.out 5).trans rfl⟩ (fun hHeld => ?_)
  clear hK K
  refine norm_ (a' := ?_) ?_ ?_
  rotate_left
  · show Act.put _ (some 13) _ = _
    simp only [Act.put, uY, uZ, vA, uB, uD]
    rfl
  refine uC (i := 7) (N := some 14) (v := ?_) (a' := ?_) tb75 rfl rfl (uK HT_.out (by kernel_rfl)) (fun _ _ _ h => h) (Or.inl ⟨by rfl, ?_⟩) ?_ ?_
  rotate_left
  · intro w'
    go_simp
    with_reducible rfl
  rotate_left
  · simp only [Act.put, uY, uZ, vA, uB, uD]
    rfl
  refine uC (i := 8) (N := some 3) (v := ?_) (a' := ?_) tb78 rfl rfl (uK HT_.out (by kernel_rfl)) (fun _ _ _ h => h) (Or.inl ⟨by rfl, ?_⟩) ?_ ?_
  rotate_left
  · intro w'
    go_simp
    with_reducible rfl
  rotate_left
  · simp only [Act.put, uY, uZ, vA, uB, uD]
    rfl
  refine done_ (done_of HT_.out (by kernel_rfl)) ?_
  obtain ⟨hcz24_0, hcz24_1, hcz24_2, hcz24_3, hcz24_4, hcz24_5, hfz24_0, hfz24_1, hfz24_2, hfz24_3, hfz24_4, hfz24_5⟩ := cz6 BK326
  try go_wp2
  replace BK326 := Aside0.mk (uI BK326.out)
  replace HB := Aside0.mk (below_drew1 HB.out)
  refine start_ (n := 17) (S := fun w' => w'.cell? ⟨gb326, 0, none⟩ = some (.int .i64 a0_0) ∧ w'.cell? ⟨gb326, 1, none⟩ = some (.int .i64 a0_1) ∧ w'.cell? ⟨gb326, 2, none⟩ = some (.int .i64 a0_2) ∧ w'.cell? ⟨gb326, 3, none⟩ = some (.int .i64 a0_3) ∧ w'.cell? ⟨gb326, 4, none⟩ = some (.int .i64 a0_4) ∧ w'.cell? ⟨gb326, 5, none⟩ = some (.int .i64 a0_5)) (ds := []) tb0 (by kernel_rfl) rfl rfl ⟨(uA BK326.out 0).trans rfl, (uA BK326.out 1).trans rfl, (uA BK326.out 2).trans rfl, (uA BK326.out 3).trans rfl, (uA BK326.out 4).trans rfl, (uA BK326.out 5).trans rfl⟩ (fun hHeld => ?_); refine with_tabW impl_FormatOp.tab5 impl_FormatOp.bits5 (fun HT_ HW_ => ?_)
  generalize w23.drew = w25 at BK326 HB hHeld ⊢
  refine uC (i := 0) (N := some 18) (v := ?_) (a' := ?_) tb1 rfl rfl (uK HT_.out (by kernel_rfl)) (fun _ _ _ h => h) (Or.inl ⟨by rfl, ?_⟩) ?_ ?_
  rotate_left
  · intro w'
    go_simp
    with_reducible rfl
  rotate_left
  · simp only [Act.put, uY, uZ, vA, uB, uD]
    rfl
  refine uC (i := 1) (N := some 19) (v := ?_) (a' := ?_) tb2 rfl rfl (uK HT_.out (by kernel_rfl)) (fun _ _ _ h => h) (Or.inl ⟨by rfl, ?_⟩) ?_ ?_
  rotate_left
  · intro w'
    go_simp
    with_reducible rfl
  rotate_left
  · simp only [Act.put, uY, uZ, vA, uB, uD]
    rfl
  refine uC (i := 2) (N := some 20) (v := ?_) (a' := ?_) tb3 rfl rfl (uK HT_.out (by kernel_rfl)) (fun _ _ _ h => h) (Or.inl ⟨by rfl, ?_⟩) ?_ ?_
  rotate_left
  · intro w'
    go_simp
    with_reducible rfl
  rotate_left
  · simp only [Act.put, uY, uZ, vA, uB, uD]
    rfl
  refine uC (i := 7) (N := some 25) (v := ?_) (a' := ?_) tb12 rfl rfl (uK HT_.out (by kernel_rfl)) (fun _ _ _ h => h) (Or.inl ⟨by rfl, ?_⟩) ?_ ?_
  rotate_left
  · intro w'
    go_simp
    with_reducible rfl
  rotate_left
  · simp only [Act.put, uY, uZ, vA, uB, uD]
    rfl
  refine uC (i := 12) (N := some 30) (v := ?_) (a' := ?_) tb14 rfl rfl (uK HT_.out (by kernel_rfl)) (fun _ _ _ h => h) (Or.inl ⟨by rfl, ?_⟩) ?_ ?_
  rotate_left
  · intro w'
    go_simp
    with_reducible rfl
  rotate_left
  · simp only [Act.put, uY, uZ, vA, uB, uD]
    rfl
  refine take_ (i := 3) (N := some 21) (v := ?_) (a' := ?_) tb17 rfl rfl (take_ofW HT_.out HW_.out (by kernel_rfl)) (fun _ _ _ h => h) (Or.inl ⟨by rfl, ?_⟩) hHeld ?_ ?_
  rotate_left
  · rintro w' ⟨s0, s1, s2, s3, s4, s5⟩
    go_simp
    with_reducible rfl
  rotate_left
  · simp only [Act.put, uY, uZ, vA, uB, uD]
    rfl
  refine take_ (i := 8) (N := some 26) (v := ?_) (a' := ?_) tb19 rfl rfl (take_ofW HT_.out HW_.out (by kernel_rfl)) (fun _ _ _ h => h) (Or.inl ⟨by rfl, ?_⟩) hHeld ?_ ?_
  rotate_left
  · rintro w' ⟨s0, s1, s2, s3, s4, s5⟩
    go_simp
    with_reducible rfl
  rotate_left
  · simp only [Act.put, uY, uZ, vA, uB, uD]
    rfl
  refine take_ (i := 13) (N := some 31) (v := ?_) (a' := ?_) tb22 rfl rfl (take_ofW HT_.out HW_.out (by kernel_rfl)) (fun _ _ _ h => h) (Or.inl ⟨by rfl, ?_⟩) hHeld ?_ ?_
  rotate_left
  · rintro w' ⟨s0, s1, s2, s3, s4, s5⟩
    go_simp
    with_reducible rfl
  rotate_left
  · simp only [Act.put, uY, uZ, vA, uB, uD]
    rfl
  refine one_ (i := 4) (N := some 22) tb25 rfl rfl (one_of HT_.out (by kernel_rfl)) (by decide) (fun K hK => ?_)
  refine goes_ Tryd.func87 (by kernel_rfl) rfl #[.int .i64 a0_3] (by rfl) rfl rfl q8 ?_
  with_reducible refine (impl_FormatInt.calls a0_3 t330 _ ?side1 A10.out).mono ?_
  (case side1 => exact q15)
  rintro e w26 ⟨rfl, hb⟩
  refine ⟨_, rfl, ?_⟩
  replace BK326 := tBlk BK326 hb
  replace HB := uQ HB hb
  (try clear hb)
  (try clear hb2)
  (try clear hk)
  (try clear hi)
  refine hK.out _ _ ⟨(uA BK326.out 0).trans rfl, (uA BK326.out 1).trans rfl, (uA BK326.out 2).trans rfl, (uA BK326.out 3).trans rfl, (uA BK326.out 4).trans rfl, (uA BK326.out 5).trans rfl⟩ (fun hHeld => ?_)
  clear hK K
  refine norm_ (a' := ?_) ?_ ?_
  rotate_left
  · show Act.put _ (some 22) _ = _
    simp only [Act.put, uY, uZ, vA, uB, uD]
    rfl
  refine uC (i := 5) (N := some 23) (v := ?_) (a' := ?_) tb27 rfl rfl (uK HT_.out (by kernel_rfl)) (fun _ _ _ h => h) (Or.inl ⟨by rfl, ?_⟩) ?_ ?_
  rotate_left
  · intro w'
    go_simp
    with_reducible rfl
  rotate_left
  · simp only [Act.put, uY, uZ, vA, uB, uD]
    rfl
  refine uC (i := 6) (N := some 24) (v := ?_) (a' := ?_) tb30 rfl rfl (uK HT_.out (by kernel_rfl)) (fun _ _ _ h => h) (Or.inl ⟨by rfl, ?_⟩) ?_ ?_
  rotate_left
  · intro w'
    go_simp
    with_reducible rfl
  rotate_left
  · simp only [Act.put, uY, uZ, vA, uB, uD]
    rfl
  refine one_ (i := 9) (N := some 27) tb32 rfl rfl (one_of HT_.out (by kernel_rfl)) (by decide) (fun K hK => ?_)
  refine goes_ Tryd.func87 (by kernel_rfl) rfl #[.int .i64 a0_4] (by rfl) rfl rfl q8 ?_
  with_reducible refine (impl_FormatInt.calls a0_4 t331 _ ?side1 A13.out).mono ?_
  (case side1 => exact q15)
  rintro e w27 ⟨rfl, hb⟩
  refine ⟨_, rfl, ?_⟩
  replace BK326 := tBlk BK326 hb
  replace HB := uQ HB hb
  (try clear hb)
  (try clear hb2)
  (try clear hk)
  (try clear hi)
  refine hK.out _ _ ⟨(uA BK326.out 0).trans rfl, (uA BK326.out 1).trans rfl, (uA BK326.out 2).trans rfl, (uA BK326.out 3).trans rfl, (uA BK326.out 4).trans rfl, (uA BK326.out 5).trans rfl⟩ (fun hHeld => ?_)
  clear hK K
  refine norm_ (a' := ?_) ?_ ?_
  rotate_left
  · show Act.put _ (some 27) _ = _
    simp only [Act.put, uY, uZ, vA, uB, uD]
    rfl
  refine uC (i := 10) (N := some 28) (v := ?_) (a' := ?_) tb34 rfl rfl (uK HT_.out (by kernel_rfl)) (fun _ _ _ h => h) (Or.inl ⟨by rfl, ?_⟩) ?_ ?_
  rotate_left
  · intro w'
    go_simp
    with_reducible rfl
  rotate_left
  · simp only [Act.put, uY, uZ, vA, uB, uD]
    rfl
  refine uC (i := 11) (N := some 29) (v := ?_) (a' := ?_) tb4 rfl rfl (uK HT_.out (by kernel_rfl)) (fun _ _ _ h => h) (Or.inl ⟨by rfl, ?_⟩) ?_ ?_
  rotate_left
  · intro w'
    go_simp
    with_reducible rfl
  rotate_left
  · simp only [Act.put, uY, uZ, vA, uB, uD]
    rfl
  refine one_ (i := 14) (N := some 32) tb5 rfl rfl (one_of HT_.out (by kernel_rfl)) (by decide) (fun K hK => ?_)
  refine goes_ Tryd.func87 (by kernel_rfl) rfl #[.int .i64 a0_5] (by rfl) rfl rfl q8 ?_
  with_reducible refine (impl_FormatInt.calls a0_5 t332 _ ?side1 A16.out).mono ?_
  (case side1 => exact q15)
  rintro e w28 ⟨rfl, hb⟩
  refine ⟨_, rfl, ?_⟩
  replace BK326 := tBlk BK326 hb
  replace HB := uQ HB hb
  (try clear hb)
  (try clear hb2)
  (try clear hk)
  (try clear hi)
  refine hK.out _ _ ⟨(uA BK326.out 0).trans rfl, (uA BK326.out 1).trans rfl, (uA BK326.out 2).trans rfl, (uA BK326.out 3).trans rfl, (uA BK326.out 4).trans rfl, (uA BK326.out 5).trans rfl⟩ (fun hHeld => ?_)
  clear hK K
  refine norm_ (a' := ?_) ?_ ?_
  rotate_left
  · show Act.put _ (some 32) _ = _
    simp only [Act.put, uY, uZ, vA, uB, uD]
    rfl
  refine uC (i := 15) (N := some 33) (v := ?_) (a' := ?_) tb6 rfl rfl (uK HT_.out (by kernel_rfl)) (fun _ _ _ h => h) (Or.inl ⟨by rfl, ?_⟩) ?_ ?_
  rotate_left
  · intro w'
    go_simp
    with_reducible rfl
  rotate_left
  · simp only [Act.put, uY, uZ, vA, uB, uD]
    rfl
  refine uC (i := 16) (N := some 2) (v := ?_) (a' := ?_) tb7 rfl rfl (uK HT_.out (by kernel_rfl)) (fun _ _ _ h => h) (Or.inl ⟨by rfl, ?_⟩) ?_ ?_
  rotate_left
  · intro w'
    go_simp
    with_reducible rfl
  rotate_left
  · simp only [Act.put, uY, uZ, vA, uB, uD]
    rfl
  refine done_ (done_of HT_.out (by kernel_rfl)) ?_
  try go_wp2
  go_ret
  exact ⟨q2, q3⟩

/-! ### strings_Join: function 89 -/
def strings_Join.f (l0 : List ByteArray) (a1 : ByteArray) : Option ByteArray := if l0.length ≤ 140737488355328 ∧ (Lib.join (l0.map (·.data.toList)) a1.data.toList).length ≤ 140737488355328 then some ⟨(Lib.join (l0.map (·.data.toList)) a1.data.toList).toArray⟩ else none
theorem strings_Join.calls (A0 : Option Addr) (c0 : Nat) (l0 : List ByteArray) (a1 : ByteArray) (r : ByteArray) (w : World) (hr0 : Kd.C Kd.string w A0 l0.length l0) (hc0 : l0.length ≤ c0) (h : strings_Join.f l0 a1 = some r) :
    Calls Tryd.prog 89 #[.slice A0 l0.length c0, .string a1] w fun e w' => e = .returned (.string r) ∧ Below w.heap.size w w' := by
  unfold strings_Join.f at h
  by_cases c : l0.length ≤ 140737488355328 ∧ (Lib.join (l0.map (·.data.toList)) a1.data.toList).length ≤ 140737488355328
  · rw [if_pos c] at h
    obtain rfl := Option.some.inj h
    rcases Nat.eq_zero_or_pos l0.length with h0 | hp
    · obtain rfl : l0 = [] := List.length_eq_zero_iff.1 h0
      refine (Tryd.strings_Join_none A0 c0 a1 w).mono ?_
      rintro e w' ⟨rfl, rfl⟩
      exact ⟨rfl, Below.refl _ _⟩
    · obtain ⟨ad, rfl, hcells⟩ := hr0.2.2 hp
      have hcl : ∀ (j : Nat) x, l0[j]? = some x → w.cell? (ad.add j) = some (.string x) := by
        intro j x hj
        obtain ⟨cs, _, hK, hcell⟩ := hcells j x hj
        have hK' : cs = [Value.string x] := hK
        subst hK'
        have := hcell 0 _ rfl
        rwa [show Kd.string.sz = 1 from rfl, Nat.mul_one, Nat.add_zero] at this
      obtain ⟨bk, o, sp⟩ := ad
      have h1 := hcl 0 _ (List.getElem?_eq_getElem hp)
      have hsp : sp = none := by
        cases sp with
        | none => rfl
        | some s =>
          exfalso
          have h2 : World.cell? w ⟨bk, o + 0, some s⟩ = some (.string l0[0]) := h1
          unfold World.cell? at h2
          simp at h2
          split at h2 <;> simp_all
      subst hsp
      have hbk : bk < w.heap.size := vE _ _ h1
      exact (Tryd.strings_Join bk o c0 l0 a1 w (fun j x hj => by have z := hcl j x hj; rwa [Addr.add_lit] at z) hbk c.1 hc0 c.2)
  · rw [if_neg c] at h
    exact absurd h (by simp)

end Go.Proofs.YtcikahnmiiichaaDoor.G
