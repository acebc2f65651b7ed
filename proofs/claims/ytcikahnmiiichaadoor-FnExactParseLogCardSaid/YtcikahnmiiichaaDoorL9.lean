/- Go functions as Lean functions, and the proof that the code comes to them: written by a program of this session out of the translation. -/
import Derived.Test.YtcikahnmiiichaaDoorL0
import Derived.Test.YtcikahnmiiichaaDoorL7
import Derived.Test.YtcikahnmiiichaaDoorL8
import Derived.Test.YtcikahnmiiichaaDoorShelf
namespace Go.Proofs.YtcikahnmiiichaaDoor.L
open List renaming setIfInBounds_toArray → vD, set_cons_zero → vE, set_cons_succ → vF
open Go.World renaming block_lt_of_cell? → vJ
open Go.Proofs.YtcikahnmiiichaaDoor.Given
open Go.RowKit Go.Proofs.YtcikahnmiiichaaDoorW.PrintWords Go.Proofs.YtcikahnmiiichaaDoorW.PrintLast Go.Proofs.YtcikahnmiiichaaDoorW.PrintMore
attribute [local go_sem] max2_int min2_int max_two min_two max_three min_three max_four min_four   -- for this text's walks alone
set_option linter.unusedVariables false
set_option linter.unusedSimpArgs false

/-! ### impl_FormatOp: function 88 -/
def impl_FormatOp.f (a0_0 : Int) (a0_1 : Int) (a0_2 : Int) (a0_3 : Int) (a0_4 : Int) (a0_5 : Int) : Option (ByteArray) := (impl_IsValidOp.f a0_0 a0_1 a0_2 a0_3 a0_4 a0_5).bind fun t205 => (if t205 = true then ((impl_FormatInt.f a0_0).bind fun t206 => (if t206.size + 1 ≤ 9223372036854775807 then ((impl_FormatInt.f a0_1).bind fun t207 => (if (t206 ++ (⟨#[46]⟩ : ByteArray)).size + t207.size ≤ 9223372036854775807 then (if a0_2 = 2 then (if ((t206 ++ (⟨#[46]⟩ : ByteArray)) ++ t207).size + 6 ≤ 9223372036854775807 then ((impl_FormatInt.f a0_3).bind fun t208 => (if (((t206 ++ (⟨#[46]⟩ : ByteArray)) ++ t207) ++ (⟨#[32, 115, 119, 97, 112, 32]⟩ : ByteArray)).size + t208.size ≤ 9223372036854775807 then (if ((((t206 ++ (⟨#[46]⟩ : ByteArray)) ++ t207) ++ (⟨#[32, 115, 119, 97, 112, 32]⟩ : ByteArray)) ++ t208).size + 1 ≤ 9223372036854775807 then ((impl_FormatInt.f a0_4).bind fun t209 => (if (((((t206 ++ (⟨#[46]⟩ : ByteArray)) ++ t207) ++ (⟨#[32, 115, 119, 97, 112, 32]⟩ : ByteArray)) ++ t208) ++ (⟨#[32]⟩ : ByteArray)).size + t209.size ≤ 9223372036854775807 then (if ((((((t206 ++ (⟨#[46]⟩ : ByteArray)) ++ t207) ++ (⟨#[32, 115, 119, 97, 112, 32]⟩ : ByteArray)) ++ t208) ++ (⟨#[32]⟩ : ByteArray)) ++ t209).size + 1 ≤ 9223372036854775807 then ((impl_FormatInt.f a0_5).bind fun t210 => (if (((((((t206 ++ (⟨#[46]⟩ : ByteArray)) ++ t207) ++ (⟨#[32, 115, 119, 97, 112, 32]⟩ : ByteArray)) ++ t208) ++ (⟨#[32]⟩ : ByteArray)) ++ t209) ++ (⟨#[32]⟩ : ByteArray)).size + t210.size ≤ 9223372036854775807 then (some ((((((((t206 ++ (⟨#[46]⟩ : ByteArray)) ++ t207) ++ (⟨#[32, 115, 119, 97, 112, 32]⟩ : ByteArray)) ++ t208) ++ (⟨#[32]⟩ : ByteArray)) ++ t209) ++ (⟨#[32]⟩ : ByteArray)) ++ t210)) else (none))) else (none)) else (none))) else (none)) else (none))) else (none)) else (if ((t206 ++ (⟨#[46]⟩ : ByteArray)) ++ t207).size + 7 ≤ 9223372036854775807 then ((impl_FormatInt.f a0_3).bind fun t211 => (if (((t206 ++ (⟨#[46]⟩ : ByteArray)) ++ t207) ++ (⟨#[32, 119, 114, 105, 116, 101, 32]⟩ : ByteArray)).size + t211.size ≤ 9223372036854775807 then (if ((((t206 ++ (⟨#[46]⟩ : ByteArray)) ++ t207) ++ (⟨#[32, 119, 114, 105, 116, 101, 32]⟩ : ByteArray)) ++ t211).size + 1 ≤ 9223372036854775807 then ((impl_FormatInt.f a0_5).bind fun t212 => (if (((((t206 ++ (⟨#[46]⟩ : ByteArray)) ++ t207) ++ (⟨#[32, 119, 114, 105, 116, 101, 32]⟩ : ByteArray)) ++ t211) ++ (⟨#[32]⟩ : ByteArray)).size + t212.size ≤ 9223372036854775807 then (some ((((((t206 ++ (⟨#[46]⟩ : ByteArray)) ++ t207) ++ (⟨#[32, 119, 114, 105, 116, 101, 32]⟩ : ByteArray)) ++ t211) ++ (⟨#[32]⟩ : ByteArray)) ++ t212)) else (none))) else (none)) else (none))) else (none))) else (none))) else (none))) else (some (⟨#[]⟩ : ByteArray)))
def impl_FormatOp.T3 : Bool × List (List Nat × List Nat) := (true, [([], []), ([0], [0]), ([1], [1]), ([2], [2]), ([], []), ([4], [4]), ([5, 2], [5]), ([3, 6], [3, 6]), ([7, 6, 0, 1, 2, 3, 4, 5, 6, 7], [7])])
def impl_FormatOp.B3 : List Nat := [0, 1, 3, 7, 0, 16, 55, 127, 255]
theorem impl_FormatOp.tab3 : rtab .any (opsOf Tryd.f88 3) = impl_FormatOp.T3 := by kernel_rfl
theorem impl_FormatOp.bits3 : waitsOk impl_FormatOp.T3.2 impl_FormatOp.B3 = true := by kernel_rfl
def impl_FormatOp.T5 : Bool × List (List Nat × List Nat) := (true, [([], []), ([0], [0]), ([], []), ([2], [2]), ([3], [3]), ([1, 4], [1, 4]), ([5], [5]), ([], []), ([7], [7]), ([8, 4], [8]), ([6, 9], [6, 9]), ([10], [10]), ([], []), ([12], [12]), ([13, 9], [13]), ([11, 14], [11, 14]), ([15, 14, 0, 1, 2, 3, 4, 5, 6, 7, 8, 9, 10, 11, 12, 13, 14, 15], [15])])
def impl_FormatOp.B5 : List Nat := [0, 1, 0, 4, 12, 31, 63, 0, 128, 412, 1023, 2047, 0, 4096, 13212, 32767, 65535]
theorem impl_FormatOp.tab5 : rtab .any (opsOf Tryd.f88 5) = impl_FormatOp.T5 := by kernel_rfl
theorem impl_FormatOp.bits5 : waitsOk impl_FormatOp.T5.2 impl_FormatOp.B5 = true := by kernel_rfl
def impl_FormatOp.T6 : Bool × List (List Nat × List Nat) := (true, [([], []), ([0], [0]), ([], []), ([2], [2]), ([3], [3]), ([1, 4], [1, 4]), ([5], [5]), ([], []), ([7], [7]), ([8, 4], [8]), ([6, 9], [6, 9]), ([10, 9, 0, 1, 2, 3, 4, 5, 6, 7, 8, 9, 10], [10])])
def impl_FormatOp.B6 : List Nat := [0, 1, 0, 4, 12, 31, 63, 0, 128, 412, 1023, 2047]
theorem impl_FormatOp.tab6 : rtab .any (opsOf Tryd.f88 6) = impl_FormatOp.T6 := by kernel_rfl
theorem impl_FormatOp.bits6 : waitsOk impl_FormatOp.T6.2 impl_FormatOp.B6 = true := by kernel_rfl
set_option maxHeartbeats 8000000 in
set_option maxRecDepth 100000 in
theorem impl_FormatOp.calls (a0_0 : Int) (a0_1 : Int) (a0_2 : Int) (a0_3 : Int) (a0_4 : Int) (a0_5 : Int) (r : ByteArray) (w : World) (hWF : WF w) (h : impl_FormatOp.f a0_0 a0_1 a0_2 a0_3 a0_4 a0_5 = some r) :
    Calls Tryd.prog 88 #[.agg #[.int .i64 a0_0, .int .i64 a0_1, .int .i64 a0_2, .int .i64 a0_3, .int .i64 a0_4, .int .i64 a0_5]] w fun e w' => e = .returned (.string r) ∧ Below w.heap.size w w' := by
  have hu64 := Tryd.underlying64
  have HB := Aside0.mk (Below.refl w.heap.size w)
  have H : ((impl_IsValidOp.f a0_0 a0_1 a0_2 a0_3 a0_4 a0_5).bind fun t205 => (if t205 = true then ((impl_FormatInt.f a0_0).bind fun t206 => (if t206.size + 1 ≤ 9223372036854775807 then ((impl_FormatInt.f a0_1).bind fun t207 => (if (t206 ++ (⟨#[46]⟩ : ByteArray)).size + t207.size ≤ 9223372036854775807 then (if a0_2 = 2 then (if ((t206 ++ (⟨#[46]⟩ : ByteArray)) ++ t207).size + 6 ≤ 9223372036854775807 then ((impl_FormatInt.f a0_3).bind fun t208 => (if (((t206 ++ (⟨#[46]⟩ : ByteArray)) ++ t207) ++ (⟨#[32, 115, 119, 97, 112, 32]⟩ : ByteArray)).size + t208.size ≤ 9223372036854775807 then (if ((((t206 ++ (⟨#[46]⟩ : ByteArray)) ++ t207) ++ (⟨#[32, 115, 119, 97, 112, 32]⟩ : ByteArray)) ++ t208).size + 1 ≤ 9223372036854775807 then ((impl_FormatInt.f a0_4).bind fun t209 => (if (((((t206 ++ (⟨#[46]⟩ : ByteArray)) ++ t207) ++ (⟨#[32, 115, 119, 97, 112, 32]⟩ : ByteArray)) ++ t208) ++ (⟨#[32]⟩ : ByteArray)).size + t209.size ≤ 9223372036854775807 then (if ((((((t206 ++ (⟨#[46]⟩ : ByteArray)) ++ t207) ++ (⟨#[32, 115, 119, 97, 112, 32]⟩ : ByteArray)) ++ t208) ++ (⟨#[32]⟩ : ByteArray)) ++ t209).size + 1 ≤ 9223372036854775807 then ((impl_FormatInt.f a0_5).bind fun t210 => (if (((((((t206 ++ (⟨#[46]⟩ : ByteArray)) ++ t207) ++ (⟨#[32, 115, 119, 97, 112, 32]⟩ : ByteArray)) ++ t208) ++ (⟨#[32]⟩ : ByteArray)) ++ t209) ++ (⟨#[32]⟩ : ByteArray)).size + t210.size ≤ 9223372036854775807 then (some ((((((((t206 ++ (⟨#[46]⟩ : ByteArray)) ++ t207) ++ (⟨#[32, 115, 119, 97, 112, 32]⟩ : ByteArray)) ++ t208) ++ (⟨#[32]⟩ : ByteArray)) ++ t209) ++ (⟨#[32]⟩ : ByteArray)) ++ t210)) else (none))) else (none)) else (none))) else (none)) else (none))) else (none)) else (if ((t206 ++ (⟨#[46]⟩ : ByteArray)) ++ t207).size + 7 ≤ 9223372036854775807 then ((impl_FormatInt.f a0_3).bind fun t211 => (if (((t206 ++ (⟨#[46]⟩ : ByteArray)) ++ t207) ++ (⟨#[32, 119, 114, 105, 116, 101, 32]⟩ : ByteArray)).size + t211.size ≤ 9223372036854775807 then (if ((((t206 ++ (⟨#[46]⟩ : ByteArray)) ++ t207) ++ (⟨#[32, 119, 114, 105, 116, 101, 32]⟩ : ByteArray)) ++ t211).size + 1 ≤ 9223372036854775807 then ((impl_FormatInt.f a0_5).bind fun t212 => (if (((((t206 ++ (⟨#[46]⟩ : ByteArray)) ++ t207) ++ (⟨#[32, 119, 114, 105, 116, 101, 32]⟩ : ByteArray)) ++ t211) ++ (⟨#[32]⟩ : ByteArray)).size + t212.size ≤ 9223372036854775807 then (some ((((((t206 ++ (⟨#[46]⟩ : ByteArray)) ++ t207) ++ (⟨#[32, 119, 114, 105, 116, 101, 32]⟩ : ByteArray)) ++ t211) ++ (⟨#[32]⟩ : ByteArray)) ++ t212)) else (none))) else (none)) else (none))) else (none))) else (none))) else (none))) else (some (⟨#[]⟩ : ByteArray)))) = some r := h
  clear h
  replace H := Option.bind_eq_some_iff.mp H
  obtain ⟨t205, A20, H⟩ := H
  try dsimp only at H
  have A2 := Aside0.mk A20
  clear A20
  go_enter Tryd.func88, Tryd.ntmps88
  go_wp2_with (first | ((with_reducible refine gate_dst (N := 1) rfl ?_); refine bxe 1 #[.int .i64 a0_0, .int .i64 a0_1, .int .i64 a0_2, .int .i64 a0_3, .int .i64 a0_4, .int .i64 a0_5] 64 ?_; intro gb204 hg w45 hbox hb; have BK204 := Aside0.mk (hbox); have GW204 := tGe HB hg; have GE204 := tGe HB hg; replace HB := uR HB hb; clear hb hbox hg; obtain ⟨hcz46_0, hcz46_1, hcz46_2, hcz46_3, hcz46_4, hcz46_5, hfz46_0, hfz46_1, hfz46_2, hfz46_3, hfz46_4, hfz46_5⟩ := cz6 BK204; refine ?roundEnd))
  case roundEnd =>
  by_cases c3 : t205 = true
  rotate_left
  · replace c3 := Bool.eq_false_iff.mpr c3
    subst c3
    try rw [if_neg (show ¬ (false = true) by decide)] at H
    obtain rfl := Option.some.inj H
    go_wp2_with (first | ((with_reducible refine uM (f := 86) rfl ?_); refine uY (some 5) Tryd.func86 #[.agg #[.int .i64 a0_0, .int .i64 a0_1, .int .i64 a0_2, .int .i64 a0_3, .int .i64 a0_4, .int .i64 a0_5]] ?_; (with_reducible refine (impl_IsValidOp.calls a0_0 a0_1 a0_2 a0_3 a0_4 a0_5 false _ A2.out).mono ?_); rintro e w47 ⟨rfl, hb⟩; refine ⟨_, rfl, ?_⟩; replace BK204 := tBlk BK204 hb; replace HB := uR HB hb; (try clear hb)))
    go_ret
    exact ⟨cq3, cq0⟩
  subst c3
  try rw [if_pos rfl] at H
  replace H := Option.bind_eq_some_iff.mp H
  obtain ⟨t206, A40, H⟩ := H
  try dsimp only at H
  have A4 := Aside0.mk A40
  clear A40
  go_wp2_with (first | ((with_reducible refine uM (f := 86) rfl ?_); refine uY (some 5) Tryd.func86 #[.agg #[.int .i64 a0_0, .int .i64 a0_1, .int .i64 a0_2, .int .i64 a0_3, .int .i64 a0_4, .int .i64 a0_5]] ?_; (with_reducible refine (impl_IsValidOp.calls a0_0 a0_1 a0_2 a0_3 a0_4 a0_5 true _ A2.out).mono ?_); rintro e w37 ⟨rfl, hb⟩; refine ⟨_, rfl, ?_⟩; replace BK204 := tBlk BK204 hb; replace HB := uR HB hb; (try clear hb); refine ?roundEnd))
  case roundEnd =>
  by_cases c5 : t206.size + 1 ≤ 9223372036854775807
  rotate_left
  · rw [if_neg c5] at H
    exact absurd H (by simp)
  rw [if_pos c5] at H
  have c5b0 := eq_true c5
  have c5b1 := decide_eq_true c5
  try have c5b2 : (9223372036854775807 < t206.size + 1) = False := eq_false (Nat.not_lt.2 c5)
  replace H := Option.bind_eq_some_iff.mp H
  obtain ⟨t207, A60, H⟩ := H
  try dsimp only at H
  have A6 := Aside0.mk A60
  clear A60
  by_cases c7 : (t206 ++ (⟨#[46]⟩ : ByteArray)).size + t207.size ≤ 9223372036854775807
  rotate_left
  · rw [if_neg c7] at H
    exact absurd H (by simp)
  rw [if_pos c7] at H
  have c7b0 := eq_true c7
  have c7b1 := decide_eq_true c7
  try have c7b2 : (9223372036854775807 < (t206 ++ (⟨#[46]⟩ : ByteArray)).size + t207.size) = False := eq_false (Nat.not_lt.2 c7)
  have c7b3 : (9223372036854775807 < t206.size + 1 + t207.size) = False := eq_false (Nat.not_lt.2 (by have z_ := c7; (repeat rw [ByteArray.size_append] at z_); exact z_))
  by_cases c8 : a0_2 = 2
  rotate_left
  · rw [if_neg c8] at H
    have c8b0 := beq_eq_false_iff_ne.mpr c8
    have c8b1 := bne_iff_ne.mpr c8
    by_cases c29 : ((t206 ++ (⟨#[46]⟩ : ByteArray)) ++ t207).size + 7 ≤ 9223372036854775807
    rotate_left
    · rw [if_neg c29] at H
      exact absurd H (by simp)
    rw [if_pos c29] at H
    have c29b0 := eq_true c29
    have c29b1 := decide_eq_true c29
    try have c29b2 : (9223372036854775807 < ((t206 ++ (⟨#[46]⟩ : ByteArray)) ++ t207).size + 7) = False := eq_false (Nat.not_lt.2 c29)
    have c29b3 : (9223372036854775807 < t206.size + 1 + t207.size + 7) = False := eq_false (Nat.not_lt.2 (by have z_ := c29; (repeat rw [ByteArray.size_append] at z_); exact z_))
    replace H := Option.bind_eq_some_iff.mp H
    obtain ⟨t211, A300, H⟩ := H
    try dsimp only at H
    have A30 := Aside0.mk A300
    clear A300
    by_cases c31 : (((t206 ++ (⟨#[46]⟩ : ByteArray)) ++ t207) ++ (⟨#[32, 119, 114, 105, 116, 101, 32]⟩ : ByteArray)).size + t211.size ≤ 9223372036854775807
    rotate_left
    · rw [if_neg c31] at H
      exact absurd H (by simp)
    rw [if_pos c31] at H
    have c31b0 := eq_true c31
    have c31b1 := decide_eq_true c31
    try have c31b2 : (9223372036854775807 < (((t206 ++ (⟨#[46]⟩ : ByteArray)) ++ t207) ++ (⟨#[32, 119, 114, 105, 116, 101, 32]⟩ : ByteArray)).size + t211.size) = False := eq_false (Nat.not_lt.2 c31)
    have c31b3 : (9223372036854775807 < t206.size + 1 + t207.size + 7 + t211.size) = False := eq_false (Nat.not_lt.2 (by have z_ := c31; (repeat rw [ByteArray.size_append] at z_); exact z_))
    by_cases c32 : ((((t206 ++ (⟨#[46]⟩ : ByteArray)) ++ t207) ++ (⟨#[32, 119, 114, 105, 116, 101, 32]⟩ : ByteArray)) ++ t211).size + 1 ≤ 9223372036854775807
    rotate_left
    · rw [if_neg c32] at H
      exact absurd H (by simp)
    rw [if_pos c32] at H
    have c32b0 := eq_true c32
    have c32b1 := decide_eq_true c32
    try have c32b2 : (9223372036854775807 < ((((t206 ++ (⟨#[46]⟩ : ByteArray)) ++ t207) ++ (⟨#[32, 119, 114, 105, 116, 101, 32]⟩ : ByteArray)) ++ t211).size + 1) = False := eq_false (Nat.not_lt.2 c32)
    have c32b3 : (9223372036854775807 < t206.size + 1 + t207.size + 7 + t211.size + 1) = False := eq_false (Nat.not_lt.2 (by have z_ := c32; (repeat rw [ByteArray.size_append] at z_); exact z_))
    replace H := Option.bind_eq_some_iff.mp H
    obtain ⟨t212, A330, H⟩ := H
    try dsimp only at H
    have A33 := Aside0.mk A330
    clear A330
    by_cases c34 : (((((t206 ++ (⟨#[46]⟩ : ByteArray)) ++ t207) ++ (⟨#[32, 119, 114, 105, 116, 101, 32]⟩ : ByteArray)) ++ t211) ++ (⟨#[32]⟩ : ByteArray)).size + t212.size ≤ 9223372036854775807
    rotate_left
    · rw [if_neg c34] at H
      exact absurd H (by simp)
    rw [if_pos c34] at H
    have c34b0 := eq_true c34
    have c34b1 := decide_eq_true c34
    try have c34b2 : (9223372036854775807 < (((((t206 ++ (⟨#[46]⟩ : ByteArray)) ++ t207) ++ (⟨#[32, 119, 114, 105, 116, 101, 32]⟩ : ByteArray)) ++ t211) ++ (⟨#[32]⟩ : ByteArray)).size + t212.size) = False := eq_false (Nat.not_lt.2 c34)
    have c34b3 : (9223372036854775807 < t206.size + 1 + t207.size + 7 + t211.size + 1 + t212.size) = False := eq_false (Nat.not_lt.2 (by have z_ := c34; (repeat rw [ByteArray.size_append] at z_); exact z_))
    obtain rfl := Option.some.inj H
    try go_wp2
    replace BK204 := Aside0.mk (uF BK204.out)
    replace HB := Aside0.mk (vB HB.out)
    refine start_ (n := 9) (S := fun w' => w'.cell? ⟨gb204, 0, none⟩ = some (.int .i64 a0_0) ∧ w'.cell? ⟨gb204, 1, none⟩ = some (.int .i64 a0_1) ∧ w'.cell? ⟨gb204, 2, none⟩ = some (.int .i64 a0_2) ∧ w'.cell? ⟨gb204, 3, none⟩ = some (.int .i64 a0_3) ∧ w'.cell? ⟨gb204, 4, none⟩ = some (.int .i64 a0_4) ∧ w'.cell? ⟨gb204, 5, none⟩ = some (.int .i64 a0_5)) (ds := []) tb93 (by kernel_rfl) rfl rfl ⟨(uA BK204.out 0).trans rfl, (uA BK204.out 1).trans rfl, (uA BK204.out 2).trans rfl, (uA BK204.out 3).trans rfl, (uA BK204.out 4).trans rfl, (uA BK204.out 5).trans rfl⟩ (fun hHeld => ?_); refine with_tabW impl_FormatOp.tab3 impl_FormatOp.bits3 (fun HT_ HW_ => ?_)
    generalize w37.drew = w38 at BK204 HB hHeld ⊢
    refine uJ 0 (some 7) tb96 ?_
    refine uJ 4 (some 11) tb99 ?_
    refine takeT 1 (some 8) tb102 ?_
    refine takeT 5 (some 12) tb105 ?_
    refine oneT 2 (some 9) tb108 (fun K hK => ?_)
    refine goesT Tryd.func87 #[.int .i64 a0_0] ?_
    with_reducible refine (impl_FormatInt.calls a0_0 t206 _ ?side1 A4.out).mono ?_
    (case side1 => exact cq5)
    rintro e w39 ⟨rfl, hb⟩
    refine ⟨_, rfl, ?_⟩
    replace BK204 := tBlk BK204 hb
    replace HB := uR HB hb
    (try clear hb)
    refine hK.out _ _ ⟨(uA BK204.out 0).trans rfl, (uA BK204.out 1).trans rfl, (uA BK204.out 2).trans rfl, (uA BK204.out 3).trans rfl, (uA BK204.out 4).trans rfl, (uA BK204.out 5).trans rfl⟩ (fun hHeld => ?_)
    clear hK K
    refine uW ?_
    refine uJ 3 (some 10) tb111 ?_
    refine oneT 6 (some 13) tb112 (fun K hK => ?_)
    refine goesT Tryd.func87 #[.int .i64 a0_1] ?_
    with_reducible refine (impl_FormatInt.calls a0_1 t207 _ ?side1 A6.out).mono ?_
    (case side1 => exact cq5)
    rintro e w40 ⟨rfl, hb⟩
    refine ⟨_, rfl, ?_⟩
    replace BK204 := tBlk BK204 hb
    replace HB := uR HB hb
    (try clear hb)
    refine hK.out _ _ ⟨(uA BK204.out 0).trans rfl, (uA BK204.out 1).trans rfl, (uA BK204.out 2).trans rfl, (uA BK204.out 3).trans rfl, (uA BK204.out 4).trans rfl, (uA BK204.out 5).trans rfl⟩ (fun hHeld => ?_)
    clear hK K
    refine uW ?_
    refine uJ 7 (some 14) tb114 ?_
    refine uJ 8 (some 3) tb116 ?_
    refine done_ (done_of HT_.out (by kernel_rfl)) ?_
    obtain ⟨hcz41_0, hcz41_1, hcz41_2, hcz41_3, hcz41_4, hcz41_5, hfz41_0, hfz41_1, hfz41_2, hfz41_3, hfz41_4, hfz41_5⟩ := cz6 BK204
    try go_wp2
    replace BK204 := Aside0.mk (uF BK204.out)
    replace HB := Aside0.mk (vB HB.out)
    refine start_ (n := 12) (S := fun w' => w'.cell? ⟨gb204, 0, none⟩ = some (.int .i64 a0_0) ∧ w'.cell? ⟨gb204, 1, none⟩ = some (.int .i64 a0_1) ∧ w'.cell? ⟨gb204, 2, none⟩ = some (.int .i64 a0_2) ∧ w'.cell? ⟨gb204, 3, none⟩ = some (.int .i64 a0_3) ∧ w'.cell? ⟨gb204, 4, none⟩ = some (.int .i64 a0_4) ∧ w'.cell? ⟨gb204, 5, none⟩ = some (.int .i64 a0_5)) (ds := []) tb28 (by kernel_rfl) rfl rfl ⟨(uA BK204.out 0).trans rfl, (uA BK204.out 1).trans rfl, (uA BK204.out 2).trans rfl, (uA BK204.out 3).trans rfl, (uA BK204.out 4).trans rfl, (uA BK204.out 5).trans rfl⟩ (fun hHeld => ?_); refine with_tabW impl_FormatOp.tab6 impl_FormatOp.bits6 (fun HT_ HW_ => ?_)
    generalize w40.drew = w42 at BK204 HB hHeld ⊢
    refine uJ 0 (some 34) tb29 ?_
    refine uJ 1 (some 35) tb30 ?_
    refine uJ 2 (some 36) tb63 ?_
    refine uJ 7 (some 41) tb64 ?_
    refine takeT 3 (some 37) tb65 ?_
    refine takeT 8 (some 42) tb66 ?_
    refine oneT 4 (some 38) tb67 (fun K hK => ?_)
    refine goesT Tryd.func87 #[.int .i64 a0_3] ?_
    with_reducible refine (impl_FormatInt.calls a0_3 t211 _ ?side1 A30.out).mono ?_
    (case side1 => exact cq5)
    rintro e w43 ⟨rfl, hb⟩
    refine ⟨_, rfl, ?_⟩
    replace BK204 := tBlk BK204 hb
    replace HB := uR HB hb
    (try clear hb)
    refine hK.out _ _ ⟨(uA BK204.out 0).trans rfl, (uA BK204.out 1).trans rfl, (uA BK204.out 2).trans rfl, (uA BK204.out 3).trans rfl, (uA BK204.out 4).trans rfl, (uA BK204.out 5).trans rfl⟩ (fun hHeld => ?_)
    clear hK K
    refine uW ?_
    refine uJ 5 (some 39) tb69 ?_
    refine uJ 6 (some 40) tb37 ?_
    refine oneT 9 (some 43) tb44 (fun K hK => ?_)
    refine goesT Tryd.func87 #[.int .i64 a0_5] ?_
    with_reducible refine (impl_FormatInt.calls a0_5 t212 _ ?side1 A33.out).mono ?_
    (case side1 => exact cq5)
    rintro e w44 ⟨rfl, hb⟩
    refine ⟨_, rfl, ?_⟩
    replace BK204 := tBlk BK204 hb
    replace HB := uR HB hb
    (try clear hb)
    refine hK.out _ _ ⟨(uA BK204.out 0).trans rfl, (uA BK204.out 1).trans rfl, (uA BK204.out 2).trans rfl, (uA BK204.out 3).trans rfl, (uA BK204.out 4).trans rfl, (uA BK204.out 5).trans rfl⟩ (fun hHeld => ?_)
    clear hK K
    refine uW ?_
    refine uJ 10 (some 44) tb47 ?_
    refine uJ 11 (some 2) tb53 ?_
    refine done_ (done_of HT_.out (by kernel_rfl)) ?_
    try go_wp2
    go_ret
    exact ⟨cq3, cq0⟩
  rw [if_pos c8] at H
  have c8b0 := beq_iff_eq.mpr c8
  have c8b1 := bne_eq_false_iff_eq.mpr c8
  clear c8
  by_cases c9 : ((t206 ++ (⟨#[46]⟩ : ByteArray)) ++ t207).size + 6 ≤ 9223372036854775807
  rotate_left
  · rw [if_neg c9] at H
    exact absurd H (by simp)
  rw [if_pos c9] at H
  have c9b0 := eq_true c9
  have c9b1 := decide_eq_true c9
  try have c9b2 : (9223372036854775807 < ((t206 ++ (⟨#[46]⟩ : ByteArray)) ++ t207).size + 6) = False := eq_false (Nat.not_lt.2 c9)
  have c9b3 : (9223372036854775807 < t206.size + 1 + t207.size + 6) = False := eq_false (Nat.not_lt.2 (by have z_ := c9; (repeat rw [ByteArray.size_append] at z_); exact z_))
  replace H := Option.bind_eq_some_iff.mp H
  obtain ⟨t208, A100, H⟩ := H
  try dsimp only at H
  have A10 := Aside0.mk A100
  clear A100
  by_cases c11 : (((t206 ++ (⟨#[46]⟩ : ByteArray)) ++ t207) ++ (⟨#[32, 115, 119, 97, 112, 32]⟩ : ByteArray)).size + t208.size ≤ 9223372036854775807
  rotate_left
  · rw [if_neg c11] at H
    exact absurd H (by simp)
  rw [if_pos c11] at H
  have c11b0 := eq_true c11
  have c11b1 := decide_eq_true c11
  try have c11b2 : (9223372036854775807 < (((t206 ++ (⟨#[46]⟩ : ByteArray)) ++ t207) ++ (⟨#[32, 115, 119, 97, 112, 32]⟩ : ByteArray)).size + t208.size) = False := eq_false (Nat.not_lt.2 c11)
  have c11b3 : (9223372036854775807 < t206.size + 1 + t207.size + 6 + t208.size) = False := eq_false (Nat.not_lt.2 (by have z_ := c11; (repeat rw [ByteArray.size_append] at z_); exact z_))
  by_cases c12 : ((((t206 ++ (⟨#[46]⟩ : ByteArray)) ++ t207) ++ (⟨#[32, 115, 119, 97, 112, 32]⟩ : ByteArray)) ++ t208).size + 1 ≤ 9223372036854775807
  rotate_left
  · rw [if_neg c12] at H
    exact absurd H (by simp)
  rw [if_pos c12] at H
  have c12b0 := eq_true c12
  have c12b1 := decide_eq_true c12
  try have c12b2 : (9223372036854775807 < ((((t206 ++ (⟨#[46]⟩ : ByteArray)) ++ t207) ++ (⟨#[32, 115, 119, 97, 112, 32]⟩ : ByteArray)) ++ t208).size + 1) = False := eq_false (Nat.not_lt.2 c12)
  have c12b3 : (9223372036854775807 < t206.size + 1 + t207.size + 6 + t208.size + 1) = False := eq_false (Nat.not_lt.2 (by have z_ := c12; (repeat rw [ByteArray.size_append] at z_); exact z_))
  replace H := Option.bind_eq_some_iff.mp H
  obtain ⟨t209, A130, H⟩ := H
  try dsimp only at H
  have A13 := Aside0.mk A130
  clear A130
  by_cases c14 : (((((t206 ++ (⟨#[46]⟩ : ByteArray)) ++ t207) ++ (⟨#[32, 115, 119, 97, 112, 32]⟩ : ByteArray)) ++ t208) ++ (⟨#[32]⟩ : ByteArray)).size + t209.size ≤ 9223372036854775807
  rotate_left
  · rw [if_neg c14] at H
    exact absurd H (by simp)
  rw [if_pos c14] at H
  have c14b0 := eq_true c14
  have c14b1 := decide_eq_true c14
  try have c14b2 : (9223372036854775807 < (((((t206 ++ (⟨#[46]⟩ : ByteArray)) ++ t207) ++ (⟨#[32, 115, 119, 97, 112, 32]⟩ : ByteArray)) ++ t208) ++ (⟨#[32]⟩ : ByteArray)).size + t209.size) = False := eq_false (Nat.not_lt.2 c14)
  have c14b3 : (9223372036854775807 < t206.size + 1 + t207.size + 6 + t208.size + 1 + t209.size) = False := eq_false (Nat.not_lt.2 (by have z_ := c14; (repeat rw [ByteArray.size_append] at z_); exact z_))
  by_cases c15 : ((((((t206 ++ (⟨#[46]⟩ : ByteArray)) ++ t207) ++ (⟨#[32, 115, 119, 97, 112, 32]⟩ : ByteArray)) ++ t208) ++ (⟨#[32]⟩ : ByteArray)) ++ t209).size + 1 ≤ 9223372036854775807
  rotate_left
  · rw [if_neg c15] at H
    exact absurd H (by simp)
  rw [if_pos c15] at H
  have c15b0 := eq_true c15
  have c15b1 := decide_eq_true c15
  try have c15b2 : (9223372036854775807 < ((((((t206 ++ (⟨#[46]⟩ : ByteArray)) ++ t207) ++ (⟨#[32, 115, 119, 97, 112, 32]⟩ : ByteArray)) ++ t208) ++ (⟨#[32]⟩ : ByteArray)) ++ t209).size + 1) = False := eq_false (Nat.not_lt.2 c15)
  have c15b3 : (9223372036854775807 < t206.size + 1 + t207.size + 6 + t208.size + 1 + t209.size + 1) = False := eq_false (Nat.not_lt.2 (by have z_ := c15; (repeat rw [ByteArray.size_append] at z_); exact z_))
  replace H := Option.bind_eq_some_iff.mp H
  obtain ⟨t210, A160, H⟩ := H
  try dsimp only at H
  have A16 := Aside0.mk A160
  clear A160
  by_cases c17 : (((((((t206 ++ (⟨#[46]⟩ : ByteArray)) ++ t207) ++ (⟨#[32, 115, 119, 97, 112, 32]⟩ : ByteArray)) ++ t208) ++ (⟨#[32]⟩ : ByteArray)) ++ t209) ++ (⟨#[32]⟩ : ByteArray)).size + t210.size ≤ 9223372036854775807
  rotate_left
  · rw [if_neg c17] at H
    exact absurd H (by simp)
  rw [if_pos c17] at H
  have c17b0 := eq_true c17
  have c17b1 := decide_eq_true c17
  try have c17b2 : (9223372036854775807 < (((((((t206 ++ (⟨#[46]⟩ : ByteArray)) ++ t207) ++ (⟨#[32, 115, 119, 97, 112, 32]⟩ : ByteArray)) ++ t208) ++ (⟨#[32]⟩ : ByteArray)) ++ t209) ++ (⟨#[32]⟩ : ByteArray)).size + t210.size) = False := eq_false (Nat.not_lt.2 c17)
  have c17b3 : (9223372036854775807 < t206.size + 1 + t207.size + 6 + t208.size + 1 + t209.size + 1 + t210.size) = False := eq_false (Nat.not_lt.2 (by have z_ := c17; (repeat rw [ByteArray.size_append] at z_); exact z_))
  obtain rfl := Option.some.inj H
  try go_wp2
  replace BK204 := Aside0.mk (uF BK204.out)
  replace HB := Aside0.mk (vB HB.out)
  refine start_ (n := 9) (S := fun w' => w'.cell? ⟨gb204, 0, none⟩ = some (.int .i64 a0_0) ∧ w'.cell? ⟨gb204, 1, none⟩ = some (.int .i64 a0_1) ∧ w'.cell? ⟨gb204, 2, none⟩ = some (.int .i64 a0_2) ∧ w'.cell? ⟨gb204, 3, none⟩ = some (.int .i64 a0_3) ∧ w'.cell? ⟨gb204, 4, none⟩ = some (.int .i64 a0_4) ∧ w'.cell? ⟨gb204, 5, none⟩ = some (.int .i64 a0_5)) (ds := []) tb93 (by kernel_rfl) rfl rfl ⟨(uA BK204.out 0).trans rfl, (uA BK204.out 1).trans rfl, (uA BK204.out 2).trans rfl, (uA BK204.out 3).trans rfl, (uA BK204.out 4).trans rfl, (uA BK204.out 5).trans rfl⟩ (fun hHeld => ?_); refine with_tabW impl_FormatOp.tab3 impl_FormatOp.bits3 (fun HT_ HW_ => ?_)
  generalize w37.drew = w21 at BK204 HB hHeld ⊢
  refine uJ 0 (some 7) tb96 ?_
  refine uJ 4 (some 11) tb99 ?_
  refine takeT 1 (some 8) tb102 ?_
  refine takeT 5 (some 12) tb105 ?_
  refine oneT 2 (some 9) tb108 (fun K hK => ?_)
  refine goesT Tryd.func87 #[.int .i64 a0_0] ?_
  with_reducible refine (impl_FormatInt.calls a0_0 t206 _ ?side1 A4.out).mono ?_
  (case side1 => exact cq5)
  rintro e w22 ⟨rfl, hb⟩
  refine ⟨_, rfl, ?_⟩
  replace BK204 := tBlk BK204 hb
  replace HB := uR HB hb
  (try clear hb)
  refine hK.out _ _ ⟨(uA BK204.out 0).trans rfl, (uA BK204.out 1).trans rfl, (uA BK204.out 2).trans rfl, (uA BK204.out 3).trans rfl, (uA BK204.out 4).trans rfl, (uA BK204.out 5).trans rfl⟩ (fun hHeld => ?_)
  clear hK K
  refine uW ?_
  refine uJ 3 (some 10) tb111 ?_
  refine oneT 6 (some 13) tb112 (fun K hK => ?_)
  refine goesT Tryd.func87 #[.int .i64 a0_1] ?_
  with_reducible refine (impl_FormatInt.calls a0_1 t207 _ ?side1 A6.out).mono ?_
  (case side1 => exact cq5)
  rintro e w23 ⟨rfl, hb⟩
  refine ⟨_, rfl, ?_⟩
  replace BK204 := tBlk BK204 hb
  replace HB := uR HB hb
  (try clear hb)
  refine hK.out _ _ ⟨(uA BK204.out 0).trans rfl, (uA BK204.out 1).trans rfl, (uA BK204.out 2).trans rfl, (uA BK204.out 3).trans rfl, (uA BK204.out 4).trans rfl, (uA BK204.out 5).trans rfl⟩ (fun hHeld => ?_)
  clear hK K
  refine uW ?_
  refine uJ 7 (some 14) tb114 ?_
  refine uJ 8 (some 3) tb116 ?_
  refine done_ (done_of HT_.out (by kernel_rfl)) ?_
  obtain ⟨hcz24_0, hcz24_1, hcz24_2, hcz24_3, hcz24_4, hcz24_5, hfz24_0, hfz24_1, hfz24_2, hfz24_3, hfz24_4, hfz24_5⟩ := cz6 BK204
  try go_wp2
  replace BK204 := Aside0.mk (uF BK204.out)
  replace HB := Aside0.mk (vB HB.out)
  refine start_ (n := 17) (S := fun w' => w'.cell? ⟨gb204, 0, none⟩ = some (.int .i64 a0_0) ∧ w'.cell? ⟨gb204, 1, none⟩ = some (.int .i64 a0_1) ∧ w'.cell? ⟨gb204, 2, none⟩ = some (.int .i64 a0_2) ∧ w'.cell? ⟨gb204, 3, none⟩ = some (.int .i64 a0_3) ∧ w'.cell? ⟨gb204, 4, none⟩ = some (.int .i64 a0_4) ∧ w'.cell? ⟨gb204, 5, none⟩ = some (.int .i64 a0_5)) (ds := []) tb0 (by kernel_rfl) rfl rfl ⟨(uA BK204.out 0).trans rfl, (uA BK204.out 1).trans rfl, (uA BK204.out 2).trans rfl, (uA BK204.out 3).trans rfl, (uA BK204.out 4).trans rfl, (uA BK204.out 5).trans rfl⟩ (fun hHeld => ?_); refine with_tabW impl_FormatOp.tab5 impl_FormatOp.bits5 (fun HT_ HW_ => ?_)
  generalize w23.drew = w25 at BK204 HB hHeld ⊢
  refine uJ 0 (some 18) tb1 ?_
  refine uJ 1 (some 19) tb2 ?_
  refine uJ 2 (some 20) tb3 ?_
  refine uJ 7 (some 25) tb31 ?_
  refine uJ 12 (some 30) tb35 ?_
  refine takeT 3 (some 21) tb39 ?_
  refine takeT 8 (some 26) tb42 ?_
  refine takeT 13 (some 31) tb45 ?_
  refine oneT 4 (some 22) tb49 (fun K hK => ?_)
  refine goesT Tryd.func87 #[.int .i64 a0_3] ?_
  with_reducible refine (impl_FormatInt.calls a0_3 t208 _ ?side1 A10.out).mono ?_
  (case side1 => exact cq5)
  rintro e w26 ⟨rfl, hb⟩
  refine ⟨_, rfl, ?_⟩
  replace BK204 := tBlk BK204 hb
  replace HB := uR HB hb
  (try clear hb)
  refine hK.out _ _ ⟨(uA BK204.out 0).trans rfl, (uA BK204.out 1).trans rfl, (uA BK204.out 2).trans rfl, (uA BK204.out 3).trans rfl, (uA BK204.out 4).trans rfl, (uA BK204.out 5).trans rfl⟩ (fun hHeld => ?_)
  clear hK K
  refine uW ?_
  refine uJ 5 (some 23) tb51 ?_
  refine uJ 6 (some 24) tb54 ?_
  refine oneT 9 (some 27) tb56 (fun K hK => ?_)
  refine goesT Tryd.func87 #[.int .i64 a0_4] ?_
  with_reducible refine (impl_FormatInt.calls a0_4 t209 _ ?side1 A13.out).mono ?_
  (case side1 => exact cq5)
  rintro e w27 ⟨rfl, hb⟩
  refine ⟨_, rfl, ?_⟩
  replace BK204 := tBlk BK204 hb
  replace HB := uR HB hb
  (try clear hb)
  refine hK.out _ _ ⟨(uA BK204.out 0).trans rfl, (uA BK204.out 1).trans rfl, (uA BK204.out 2).trans rfl, (uA BK204.out 3).trans rfl, (uA BK204.out 4).trans rfl, (uA BK204.out 5).trans rfl⟩ (fun hHeld => ?_)
  clear hK K
  refine uW ?_
  refine uJ 10 (some 28) tb58 ?_
  refine uJ 11 (some 29) tb4 ?_
  refine oneT 14 (some 32) tb5 (fun K hK => ?_)
  refine goesT Tryd.func87 #[.int .i64 a0_5] ?_
  with_reducible refine (impl_FormatInt.calls a0_5 t210 _ ?side1 A16.out).mono ?_
  (case side1 => exact cq5)
  rintro e w28 ⟨rfl, hb⟩
  refine ⟨_, rfl, ?_⟩
  replace BK204 := tBlk BK204 hb
  replace HB := uR HB hb
  (try clear hb)
  refine hK.out _ _ ⟨(uA BK204.out 0).trans rfl, (uA BK204.out 1).trans rfl, (uA BK204.out 2).trans rfl, (uA BK204.out 3).trans rfl, (uA BK204.out 4).trans rfl, (uA BK204.out 5).trans rfl⟩ (fun hHeld => ?_)
  clear hK K
  refine uW ?_
  refine uJ 15 (some 33) tb6 ?_
  refine uJ 16 (some 2) tb8 ?_
  refine done_ (done_of HT_.out (by kernel_rfl)) ?_
  try go_wp2
  go_ret
  exact ⟨cq3, cq0⟩

/-! ### strings_Join: function 89 -/
def strings_Join.f (l0 : List ByteArray) (a1 : ByteArray) : Option ByteArray := if l0.length ≤ 140737488355328 ∧ (Lib.join (l0.map (·.data.toList)) a1.data.toList).length ≤ 140737488355328 then some ⟨(Lib.join (l0.map (·.data.toList)) a1.data.toList).toArray⟩ else none
theorem strings_Join.calls (A0 : Option Addr) (c0 : Nat) (l0 : List ByteArray) (a1 : ByteArray) (r : ByteArray) (w : World) (hr0 : Kd.C Kd.string w A0 l0.length l0) (hc0 : l0.length ≤ c0) (h : strings_Join.f l0 a1 = some r) :
    Calls Tryd.prog 89 #[.slice A0 l0.length c0, .string a1] w fun e w' => e = .returned (.string r) ∧ Below w.heap.size w w' := by
  unfold strings_Join.f at h
  by_cases c : l0.length ≤ 140737488355328 ∧ (Lib.join (l0.map (·.data.toList)) a1.data.toList).length ≤ 140737488355328
  · rw [if_pos c] at h
    obtain rfl := Option.some.inj h
    rcases Nat.eq_zero_or_pos l0.length with h0 | hp
    · obtain rfl : l0 = [] := List.length_eq_zero_iff.1 h0
      refine (Tryd.strings_Join_none A0 c0 a1 w).mono ?_
      rintro e w' ⟨rfl, rfl⟩
      exact ⟨rfl, Below.refl _ _⟩
    · obtain ⟨ad, rfl, hcells⟩ := hr0.2.2 hp
      have hcl : ∀ (j : Nat) x, l0[j]? = some x → w.cell? (ad.add j) = some (.string x) := by
        intro j x hj
        obtain ⟨cs, _, hK, hcell⟩ := hcells j x hj
        have hK' : cs = [Value.string x] := hK
        subst hK'
        have := hcell 0 _ rfl
        rwa [show Kd.string.sz = 1 from rfl, Nat.mul_one, Nat.add_zero] at this
      obtain ⟨bk, o, sp⟩ := ad
      have h1 := hcl 0 _ (List.getElem?_eq_getElem hp)
      have hsp : sp = none := by
        cases sp with
        | none => rfl
        | some s =>
          exfalso
          have h2 : World.cell? w ⟨bk, o + 0, some s⟩ = some (.string l0[0]) := h1
          unfold World.cell? at h2
          simp at h2
          split at h2 <;> simp_all
      subst hsp
      have hbk : bk < w.heap.size := vJ _ _ h1
      exact (Tryd.strings_Join bk o c0 l0 a1 w (fun j x hj => by have z := hcl j x hj; rwa [Addr.add_lit] at z) hbk c.1 hc0 c.2)
  · rw [if_neg c] at h
    exact absurd h (by simp)

end Go.Proofs.YtcikahnmiiichaaDoor.L
