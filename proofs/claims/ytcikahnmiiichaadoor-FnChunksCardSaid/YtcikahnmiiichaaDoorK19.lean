/- Go functions as Lean functions, and the proof that the code comes to them: written by a program of this session out of the translation. -/
import Derived.Test.YtcikahnmiiichaaDoorK0
import Derived.Test.YtcikahnmiiichaaDoorK1
import Derived.Test.YtcikahnmiiichaaDoorK7
import Derived.Test.YtcikahnmiiichaaDoorK16
import Derived.Test.YtcikahnmiiichaaDoorK18
namespace Go.Proofs.YtcikahnmiiichaaDoor.K
open List renaming setIfInBounds_toArray → vZ, set_cons_zero → yA, set_cons_succ → yB
open Go.World renaming block_lt_of_cell? → yF
open Go.Proofs.YtcikahnmiiichaaDoor.Given
open Go.RowKit Go.Proofs.YtcikahnmiiichaaDoorW.PrintWords Go.Proofs.YtcikahnmiiichaaDoorW.PrintLast Go.Proofs.YtcikahnmiiichaaDoorW.PrintMore
attribute [local go_sem] max2_int min2_int max_two min_two vW vV max_four min_four   -- for this text's walks alone
set_option linter.unusedVariables false
set_option linter.unusedSimpArgs false

/-! ### impl_readChunk: function 59 -/
def impl_readChunk.f (k : Nat) (a0 : ByteArray) : Option (Int × Int × ByteArray × Bool) := (strings_Cut.f a0 (⟨#[47]⟩ : ByteArray)).bind fun bt565 => ((strings_Cut.f bt565.2.1 (⟨#[58]⟩ : ByteArray)).bind fun bt568 => ((strings_LastIndexByte.f bt568.2.1 35).bind fun t571 => ((impl_number.f k bt565.1).bind fun t572 => ((impl_number.f k bt568.1).bind fun t573 => (if t571 < 0 then (some (0, 0, (⟨#[]⟩ : ByteArray), false)) else ((impl_within.f t573 1 40).bind fun t574 => (if t574 = true then ((impl_within.f t572 0 (wrap64 (t573 - 1))).bind fun t575 => (if t575 = true then (if t571 = 0 then (if t573 > 1 then (some (0, 0, (⟨#[]⟩ : ByteArray), false)) else (if 0 ≤ t571 then (if t571 ≤ (bt568.2.1.size : Int) then ((impl_chunkText.f k t572 t573 (bt568.2.1.extract 0 (t571 : Int).toNat)).bind fun t576 => (if t576.toList = a0.toList then (some (t572, t573, bt568.2.1.extract 0 (t571 : Int).toNat, true)) else (some (0, 0, (⟨#[]⟩ : ByteArray), false)))) else (none)) else (none))) else (if 0 ≤ t571 then (if t571 ≤ (bt568.2.1.size : Int) then ((impl_chunkText.f k t572 t573 (bt568.2.1.extract 0 (t571 : Int).toNat)).bind fun t577 => (if t577.toList = a0.toList then (some (t572, t573, bt568.2.1.extract 0 (t571 : Int).toNat, true)) else (some (0, 0, (⟨#[]⟩ : ByteArray), false)))) else (none)) else (none))) else (some (0, 0, (⟨#[]⟩ : ByteArray), false)))) else (some (0, 0, (⟨#[]⟩ : ByteArray), false)))))))))
theorem impl_readChunk.mono : ∀ a0 k, uA (impl_readChunk.f k a0) (impl_readChunk.f (k + 1) a0) := by
 intro a0 k
 unfold impl_readChunk.f
 repeat' first
   | (with_reducible exact impl_chunkText.mono _ _ _ _)
   | (with_reducible exact impl_number.mono _ _)
   | (with_reducible exact uA.refl _)
   | (with_reducible exact uA.none _)
   | (with_reducible refine uA.vA ?_ ?_)
   | (with_reducible refine uA.bind ?_ (fun _ => ?_))
   | exact uA.none _
   | refine uA.vA ?_ ?_
   | refine uA.bind ?_ (fun _ => ?_)
set_option maxHeartbeats 8000000 in
set_option maxRecDepth 100000 in
theorem impl_readChunk.calls (k : Nat) (a0 : ByteArray) (r1 : Int) (r2 : Int) (r3 : ByteArray) (r4 : Bool) (w : World) (hWF : WF w) (h : impl_readChunk.f k a0 = some (r1, r2, r3, r4)) :
  Calls Tryd.prog 59 #[.string a0] w fun e w' => e = .returned (.tuple #[.int .i64 r1, .int .i64 r2, .string r3, .bool r4]) ∧ Below w.heap.size w w' := by
 have HB := Aside0.mk (Below.refl w.heap.size w)
 have H : ((strings_Cut.f a0 (⟨#[47]⟩ : ByteArray)).bind fun bt565 => ((strings_Cut.f bt565.2.1 (⟨#[58]⟩ : ByteArray)).bind fun bt568 => ((strings_LastIndexByte.f bt568.2.1 35).bind fun t571 => ((impl_number.f k bt565.1).bind fun t572 => ((impl_number.f k bt568.1).bind fun t573 => (if t571 < 0 then (some (0, 0, (⟨#[]⟩ : ByteArray), false)) else ((impl_within.f t573 1 40).bind fun t574 => (if t574 = true then ((impl_within.f t572 0 (wrap64 (t573 - 1))).bind fun t575 => (if t575 = true then (if t571 = 0 then (if t573 > 1 then (some (0, 0, (⟨#[]⟩ : ByteArray), false)) else (if 0 ≤ t571 then (if t571 ≤ (bt568.2.1.size : Int) then ((impl_chunkText.f k t572 t573 (bt568.2.1.extract 0 (t571 : Int).toNat)).bind fun t576 => (if t576.toList = a0.toList then (some (t572, t573, bt568.2.1.extract 0 (t571 : Int).toNat, true)) else (some (0, 0, (⟨#[]⟩ : ByteArray), false)))) else (none)) else (none))) else (if 0 ≤ t571 then (if t571 ≤ (bt568.2.1.size : Int) then ((impl_chunkText.f k t572 t573 (bt568.2.1.extract 0 (t571 : Int).toNat)).bind fun t577 => (if t577.toList = a0.toList then (some (t572, t573, bt568.2.1.extract 0 (t571 : Int).toNat, true)) else (some (0, 0, (⟨#[]⟩ : ByteArray), false)))) else (none)) else (none))) else (some (0, 0, (⟨#[]⟩ : ByteArray), false)))) else (some (0, 0, (⟨#[]⟩ : ByteArray), false)))))))))) = some (r1, r2, r3, r4) := h
 clear h
 replace H := Option.bind_eq_some_iff.mp H
 obtain ⟨⟨t565, t566, t567⟩, A20, H⟩ := H
 try dsimp only at H
 have A2 := Aside0.mk A20
 clear A20
 replace H := Option.bind_eq_some_iff.mp H
 obtain ⟨⟨t568, t569, t570⟩, A30, H⟩ := H
 try dsimp only at H
 have A3 := Aside0.mk A30
 clear A30
 replace H := Option.bind_eq_some_iff.mp H
 obtain ⟨t571, A40, H⟩ := H
 try dsimp only at H
 have A4 := Aside0.mk A40
 clear A40
 replace H := Option.bind_eq_some_iff.mp H
 obtain ⟨t572, A50, H⟩ := H
 try dsimp only at H
 have A5 := Aside0.mk A50
 clear A50
 replace H := Option.bind_eq_some_iff.mp H
 obtain ⟨t573, A60, H⟩ := H
 try dsimp only at H
 have A6 := Aside0.mk A60
 clear A60
 go_enter Tryd.func59, Tryd.ntmps59
 go_wp2_with (first | (go_at_call 70; (with_reducible refine (strings_Cut.calls a0 (⟨#[47]⟩ : ByteArray) t565 t566 t567 _ A2.out).mono ?_); rintro e w' ⟨rfl, ⟨nd, rfl⟩⟩; (try exact dwN)) | (go_at_call 70; (with_reducible refine (strings_Cut.calls t566 (⟨#[58]⟩ : ByteArray) t568 t569 t570 _ A3.out).mono ?_); rintro e w' ⟨rfl, ⟨nd, rfl⟩⟩; (try exact dwN)) | (go_at_call 96; (with_reducible refine (strings_LastIndexByte.calls t569 35 t571 _ A4.out).mono ?_); rintro e w' ⟨rfl, ⟨nd, rfl⟩⟩; (try exact dwN)) | (go_at_call 72; (with_reducible refine (impl_number.calls k t565 t572 _ ?side1 A5.out).mono ?_); (case side1 => exact cq7); rintro e w8 ⟨rfl, hb⟩; replace HB := uH HB hb; (try clear hb)) | (go_at_call 72; (with_reducible refine (impl_number.calls k t568 t573 _ ?side1 A6.out).mono ?_); (case side1 => exact cq7); rintro e w9 ⟨rfl, hb⟩; replace HB := uH HB hb; (try clear hb); refine ?roundEnd))
 case roundEnd =>
 by_cases c7 : t571 < 0
 ·rw [if_pos c7] at H
  have c7b0 := decide_eq_true c7
  clear c7
  simp only [Option.some.injEq, Prod.mk.injEq] at H
  obtain ⟨rfl, rfl, rfl, rfl⟩ := H
  go_wp2
  repeat (go_quiet (first | (go_at_call 70; (with_reducible refine (strings_Cut.calls a0 (⟨#[47]⟩ : ByteArray) t565 t566 t567 _ A2.out).mono ?_); rintro e w' ⟨rfl, ⟨nd, rfl⟩⟩; (try exact dwN)) | (go_at_call 70; (with_reducible refine (strings_Cut.calls t566 (⟨#[58]⟩ : ByteArray) t568 t569 t570 _ A3.out).mono ?_); rintro e w' ⟨rfl, ⟨nd, rfl⟩⟩; (try exact dwN)) | (go_at_call 96; (with_reducible refine (strings_LastIndexByte.calls t569 35 t571 _ A4.out).mono ?_); rintro e w' ⟨rfl, ⟨nd, rfl⟩⟩; (try exact dwN)) | (go_at_call 72; (with_reducible refine (impl_number.calls k t565 t572 _ ?side1 A5.out).mono ?_); (case side1 => exact cq7); rintro e w8 ⟨rfl, hb⟩; replace HB := uH HB hb; (try clear hb)) | (go_at_call 72; (with_reducible refine (impl_number.calls k t568 t573 _ ?side1 A6.out).mono ?_); (case side1 => exact cq7); rintro e w9 ⟨rfl, hb⟩; replace HB := uH HB hb; (try clear hb))); try go_wp2_with (first | (go_at_call 70; (with_reducible refine (strings_Cut.calls a0 (⟨#[47]⟩ : ByteArray) t565 t566 t567 _ A2.out).mono ?_); rintro e w' ⟨rfl, ⟨nd, rfl⟩⟩; (try exact dwN)) | (go_at_call 70; (with_reducible refine (strings_Cut.calls t566 (⟨#[58]⟩ : ByteArray) t568 t569 t570 _ A3.out).mono ?_); rintro e w' ⟨rfl, ⟨nd, rfl⟩⟩; (try exact dwN)) | (go_at_call 96; (with_reducible refine (strings_LastIndexByte.calls t569 35 t571 _ A4.out).mono ?_); rintro e w' ⟨rfl, ⟨nd, rfl⟩⟩; (try exact dwN)) | (go_at_call 72; (with_reducible refine (impl_number.calls k t565 t572 _ ?side1 A5.out).mono ?_); (case side1 => exact cq7); rintro e w8 ⟨rfl, hb⟩; replace HB := uH HB hb; (try clear hb)) | (go_at_call 72; (with_reducible refine (impl_number.calls k t568 t573 _ ?side1 A6.out).mono ?_); (case side1 => exact cq7); rintro e w9 ⟨rfl, hb⟩; replace HB := uH HB hb; (try clear hb))))
  refine bodyPost_ret (vY (rs := [.tmp 2, .tmp 3, .tmp 4, .tmp 5]) rfl (by simp) (.tmp (.tmp (.tmp (.tmp .nil))))) rfl ?_
  exact ⟨cq5, uW⟩
 rw [if_neg c7] at H
 have c7b0 := decide_eq_false c7
 clear c7
 replace H := Option.bind_eq_some_iff.mp H
 obtain ⟨t574, A100, H⟩ := H
 try dsimp only at H
 have A10 := Aside0.mk A100
 clear A100
 by_cases c11 : t574 = true
 rotate_left
 ·replace c11 := Bool.eq_false_iff.mpr c11
  subst c11
  try rw [if_neg (show ¬ (false = true) by decide)] at H
  simp only [Option.some.injEq, Prod.mk.injEq] at H
  obtain ⟨rfl, rfl, rfl, rfl⟩ := H
  go_wp2_with (first | (go_at_call 55; (with_reducible refine (impl_within.calls t573 1 40 false _ A10.out).mono ?_); rintro e w' ⟨rfl, ⟨nd, rfl⟩⟩; (try exact dwN)))
  repeat (go_quiet (first | (go_at_call 70; (with_reducible refine (strings_Cut.calls a0 (⟨#[47]⟩ : ByteArray) t565 t566 t567 _ A2.out).mono ?_); rintro e w' ⟨rfl, ⟨nd, rfl⟩⟩; (try exact dwN)) | (go_at_call 70; (with_reducible refine (strings_Cut.calls t566 (⟨#[58]⟩ : ByteArray) t568 t569 t570 _ A3.out).mono ?_); rintro e w' ⟨rfl, ⟨nd, rfl⟩⟩; (try exact dwN)) | (go_at_call 96; (with_reducible refine (strings_LastIndexByte.calls t569 35 t571 _ A4.out).mono ?_); rintro e w' ⟨rfl, ⟨nd, rfl⟩⟩; (try exact dwN)) | (go_at_call 72; (with_reducible refine (impl_number.calls k t565 t572 _ ?side1 A5.out).mono ?_); (case side1 => exact cq7); rintro e w8 ⟨rfl, hb⟩; replace HB := uH HB hb; (try clear hb)) | (go_at_call 72; (with_reducible refine (impl_number.calls k t568 t573 _ ?side1 A6.out).mono ?_); (case side1 => exact cq7); rintro e w9 ⟨rfl, hb⟩; replace HB := uH HB hb; (try clear hb)) | (go_at_call 55; (with_reducible refine (impl_within.calls t573 1 40 false _ A10.out).mono ?_); rintro e w' ⟨rfl, ⟨nd, rfl⟩⟩; (try exact dwN))); try go_wp2_with (first | (go_at_call 70; (with_reducible refine (strings_Cut.calls a0 (⟨#[47]⟩ : ByteArray) t565 t566 t567 _ A2.out).mono ?_); rintro e w' ⟨rfl, ⟨nd, rfl⟩⟩; (try exact dwN)) | (go_at_call 70; (with_reducible refine (strings_Cut.calls t566 (⟨#[58]⟩ : ByteArray) t568 t569 t570 _ A3.out).mono ?_); rintro e w' ⟨rfl, ⟨nd, rfl⟩⟩; (try exact dwN)) | (go_at_call 96; (with_reducible refine (strings_LastIndexByte.calls t569 35 t571 _ A4.out).mono ?_); rintro e w' ⟨rfl, ⟨nd, rfl⟩⟩; (try exact dwN)) | (go_at_call 72; (with_reducible refine (impl_number.calls k t565 t572 _ ?side1 A5.out).mono ?_); (case side1 => exact cq7); rintro e w8 ⟨rfl, hb⟩; replace HB := uH HB hb; (try clear hb)) | (go_at_call 72; (with_reducible refine (impl_number.calls k t568 t573 _ ?side1 A6.out).mono ?_); (case side1 => exact cq7); rintro e w9 ⟨rfl, hb⟩; replace HB := uH HB hb; (try clear hb)) | (go_at_call 55; (with_reducible refine (impl_within.calls t573 1 40 false _ A10.out).mono ?_); rintro e w' ⟨rfl, ⟨nd, rfl⟩⟩; (try exact dwN))))
  refine bodyPost_ret (vY (rs := [.tmp 2, .tmp 3, .tmp 4, .tmp 5]) rfl (by simp) (.tmp (.tmp (.tmp (.tmp .nil))))) rfl ?_
  exact ⟨cq5, uW⟩
 subst c11
 try rw [if_pos rfl] at H
 replace H := Option.bind_eq_some_iff.mp H
 obtain ⟨t575, A120, H⟩ := H
 try dsimp only at H
 have A12 := Aside0.mk A120
 clear A120
 go_wp2_with (first | (go_at_call 55; (with_reducible refine (impl_within.calls t573 1 40 true _ A10.out).mono ?_); rintro e w' ⟨rfl, ⟨nd, rfl⟩⟩; (try exact dwN); refine ?roundEnd))
 case roundEnd =>
 by_cases c13 : t575 = true
 rotate_left
 ·replace c13 := Bool.eq_false_iff.mpr c13
  subst c13
  try rw [if_neg (show ¬ (false = true) by decide)] at H
  simp only [Option.some.injEq, Prod.mk.injEq] at H
  obtain ⟨rfl, rfl, rfl, rfl⟩ := H
  go_wp2_with (first | (go_at_call 55; (with_reducible refine (impl_within.calls t572 0 (wrap64 (t573 - 1)) false _ A12.out).mono ?_); rintro e w' ⟨rfl, ⟨nd, rfl⟩⟩; (try exact dwN)))
  repeat (go_quiet (first | (go_at_call 70; (with_reducible refine (strings_Cut.calls a0 (⟨#[47]⟩ : ByteArray) t565 t566 t567 _ A2.out).mono ?_); rintro e w' ⟨rfl, ⟨nd, rfl⟩⟩; (try exact dwN)) | (go_at_call 70; (with_reducible refine (strings_Cut.calls t566 (⟨#[58]⟩ : ByteArray) t568 t569 t570 _ A3.out).mono ?_); rintro e w' ⟨rfl, ⟨nd, rfl⟩⟩; (try exact dwN)) | (go_at_call 96; (with_reducible refine (strings_LastIndexByte.calls t569 35 t571 _ A4.out).mono ?_); rintro e w' ⟨rfl, ⟨nd, rfl⟩⟩; (try exact dwN)) | (go_at_call 72; (with_reducible refine (impl_number.calls k t565 t572 _ ?side1 A5.out).mono ?_); (case side1 => exact cq7); rintro e w8 ⟨rfl, hb⟩; replace HB := uH HB hb; (try clear hb)) | (go_at_call 72; (with_reducible refine (impl_number.calls k t568 t573 _ ?side1 A6.out).mono ?_); (case side1 => exact cq7); rintro e w9 ⟨rfl, hb⟩; replace HB := uH HB hb; (try clear hb)) | (go_at_call 55; (with_reducible refine (impl_within.calls t573 1 40 true _ A10.out).mono ?_); rintro e w' ⟨rfl, ⟨nd, rfl⟩⟩; (try exact dwN)) | (go_at_call 55; (with_reducible refine (impl_within.calls t572 0 (wrap64 (t573 - 1)) false _ A12.out).mono ?_); rintro e w' ⟨rfl, ⟨nd, rfl⟩⟩; (try exact dwN))); try go_wp2_with (first | (go_at_call 70; (with_reducible refine (strings_Cut.calls a0 (⟨#[47]⟩ : ByteArray) t565 t566 t567 _ A2.out).mono ?_); rintro e w' ⟨rfl, ⟨nd, rfl⟩⟩; (try exact dwN)) | (go_at_call 70; (with_reducible refine (strings_Cut.calls t566 (⟨#[58]⟩ : ByteArray) t568 t569 t570 _ A3.out).mono ?_); rintro e w' ⟨rfl, ⟨nd, rfl⟩⟩; (try exact dwN)) | (go_at_call 96; (with_reducible refine (strings_LastIndexByte.calls t569 35 t571 _ A4.out).mono ?_); rintro e w' ⟨rfl, ⟨nd, rfl⟩⟩; (try exact dwN)) | (go_at_call 72; (with_reducible refine (impl_number.calls k t565 t572 _ ?side1 A5.out).mono ?_); (case side1 => exact cq7); rintro e w8 ⟨rfl, hb⟩; replace HB := uH HB hb; (try clear hb)) | (go_at_call 72; (with_reducible refine (impl_number.calls k t568 t573 _ ?side1 A6.out).mono ?_); (case side1 => exact cq7); rintro e w9 ⟨rfl, hb⟩; replace HB := uH HB hb; (try clear hb)) | (go_at_call 55; (with_reducible refine (impl_within.calls t573 1 40 true _ A10.out).mono ?_); rintro e w' ⟨rfl, ⟨nd, rfl⟩⟩; (try exact dwN)) | (go_at_call 55; (with_reducible refine (impl_within.calls t572 0 (wrap64 (t573 - 1)) false _ A12.out).mono ?_); rintro e w' ⟨rfl, ⟨nd, rfl⟩⟩; (try exact dwN))))
  refine bodyPost_ret (vY (rs := [.tmp 2, .tmp 3, .tmp 4, .tmp 5]) rfl (by simp) (.tmp (.tmp (.tmp (.tmp .nil))))) rfl ?_
  exact ⟨cq5, uW⟩
 subst c13
 try rw [if_pos rfl] at H
 go_wp2_with (first | (go_at_call 55; (with_reducible refine (impl_within.calls t572 0 (wrap64 (t573 - 1)) true _ A12.out).mono ?_); rintro e w' ⟨rfl, ⟨nd, rfl⟩⟩; (try exact dwN); refine ?roundEnd))
 case roundEnd =>
 by_cases c14 : t571 = 0
 rotate_left
 ·rw [if_neg c14] at H
  have c14b0 := beq_eq_false_iff_ne.mpr c14
  have c14b1 := bne_iff_ne.mpr c14
  by_cases c30 : 0 ≤ t571
  rotate_left
  ·rw [if_neg c30] at H
   exact absurd H (by simp)
  rw [if_pos c30] at H
  have c30b0 := eq_true c30
  have c30b1 := decide_eq_true c30
  clear c30
  by_cases c31 : t571 ≤ (t569.size : Int)
  rotate_left
  ·rw [if_neg c31] at H
   exact absurd H (by simp)
  rw [if_pos c31] at H
  have c31b0 := eq_true c31
  have c31b1 := decide_eq_true c31
  clear c31
  replace H := Option.bind_eq_some_iff.mp H
  obtain ⟨t577, A320, H⟩ := H
  try dsimp only at H
  have A32 := Aside0.mk A320
  clear A320
  go_wp2_with (first | (go_at_call 63; (with_reducible refine (impl_chunkText.calls k t572 t573 (t569.extract 0 (t571 : Int).toNat) t577 _ ?side1 A32.out).mono ?_); (case side1 => exact cq7); rintro e w41 ⟨rfl, hb⟩; replace HB := uH HB hb; (try clear hb); refine ?roundEnd))
  case roundEnd =>
  by_cases c33 : t577.toList = a0.toList
  rotate_left
  ·rw [if_neg c33] at H
   have c33b0 : (t577.toList == a0.toList) = false := beq_eq_false_iff_ne.mpr c33
   have c33b1 : (t577.toList != a0.toList) = true := bne_iff_ne.mpr c33
   simp only [Option.some.injEq, Prod.mk.injEq] at H
   obtain ⟨rfl, rfl, rfl, rfl⟩ := H
   go_wp2
   repeat (go_quiet (first | (go_at_call 70; (with_reducible refine (strings_Cut.calls a0 (⟨#[47]⟩ : ByteArray) t565 t566 t567 _ A2.out).mono ?_); rintro e w' ⟨rfl, ⟨nd, rfl⟩⟩; (try exact dwN)) | (go_at_call 70; (with_reducible refine (strings_Cut.calls t566 (⟨#[58]⟩ : ByteArray) t568 t569 t570 _ A3.out).mono ?_); rintro e w' ⟨rfl, ⟨nd, rfl⟩⟩; (try exact dwN)) | (go_at_call 96; (with_reducible refine (strings_LastIndexByte.calls t569 35 t571 _ A4.out).mono ?_); rintro e w' ⟨rfl, ⟨nd, rfl⟩⟩; (try exact dwN)) | (go_at_call 72; (with_reducible refine (impl_number.calls k t565 t572 _ ?side1 A5.out).mono ?_); (case side1 => exact cq7); rintro e w8 ⟨rfl, hb⟩; replace HB := uH HB hb; (try clear hb)) | (go_at_call 72; (with_reducible refine (impl_number.calls k t568 t573 _ ?side1 A6.out).mono ?_); (case side1 => exact cq7); rintro e w9 ⟨rfl, hb⟩; replace HB := uH HB hb; (try clear hb)) | (go_at_call 55; (with_reducible refine (impl_within.calls t573 1 40 true _ A10.out).mono ?_); rintro e w' ⟨rfl, ⟨nd, rfl⟩⟩; (try exact dwN)) | (go_at_call 55; (with_reducible refine (impl_within.calls t572 0 (wrap64 (t573 - 1)) true _ A12.out).mono ?_); rintro e w' ⟨rfl, ⟨nd, rfl⟩⟩; (try exact dwN)) | (go_at_call 63; (with_reducible refine (impl_chunkText.calls k t572 t573 (t569.extract 0 (t571 : Int).toNat) t577 _ ?side1 A32.out).mono ?_); (case side1 => exact cq7); rintro e w41 ⟨rfl, hb⟩; replace HB := uH HB hb; (try clear hb))); try go_wp2_with (first | (go_at_call 70; (with_reducible refine (strings_Cut.calls a0 (⟨#[47]⟩ : ByteArray) t565 t566 t567 _ A2.out).mono ?_); rintro e w' ⟨rfl, ⟨nd, rfl⟩⟩; (try exact dwN)) | (go_at_call 70; (with_reducible refine (strings_Cut.calls t566 (⟨#[58]⟩ : ByteArray) t568 t569 t570 _ A3.out).mono ?_); rintro e w' ⟨rfl, ⟨nd, rfl⟩⟩; (try exact dwN)) | (go_at_call 96; (with_reducible refine (strings_LastIndexByte.calls t569 35 t571 _ A4.out).mono ?_); rintro e w' ⟨rfl, ⟨nd, rfl⟩⟩; (try exact dwN)) | (go_at_call 72; (with_reducible refine (impl_number.calls k t565 t572 _ ?side1 A5.out).mono ?_); (case side1 => exact cq7); rintro e w8 ⟨rfl, hb⟩; replace HB := uH HB hb; (try clear hb)) | (go_at_call 72; (with_reducible refine (impl_number.calls k t568 t573 _ ?side1 A6.out).mono ?_); (case side1 => exact cq7); rintro e w9 ⟨rfl, hb⟩; replace HB := uH HB hb; (try clear hb)) | (go_at_call 55; (with_reducible refine (impl_within.calls t573 1 40 true _ A10.out).mono ?_); rintro e w' ⟨rfl, ⟨nd, rfl⟩⟩; (try exact dwN)) | (go_at_call 55; (with_reducible refine (impl_within.calls t572 0 (wrap64 (t573 - 1)) true _ A12.out).mono ?_); rintro e w' ⟨rfl, ⟨nd, rfl⟩⟩; (try exact dwN)) | (go_at_call 63; (with_reducible refine (impl_chunkText.calls k t572 t573 (t569.extract 0 (t571 : Int).toNat) t577 _ ?side1 A32.out).mono ?_); (case side1 => exact cq7); rintro e w41 ⟨rfl, hb⟩; replace HB := uH HB hb; (try clear hb))))
   refine bodyPost_ret (vY (rs := [.tmp 2, .tmp 3, .tmp 4, .tmp 5]) rfl (by simp) (.tmp (.tmp (.tmp (.tmp .nil))))) rfl ?_
   exact ⟨cq5, uW⟩
  rw [if_pos c33] at H
  have c33b0 : (t577.toList == a0.toList) = true := beq_iff_eq.mpr c33
  have c33b1 : (t577.toList != a0.toList) = false := bne_eq_false_iff_eq.mpr c33
  clear c33
  have c34b0 := eq_true (of_decide_eq_true vC : 0 ≤ t571)
  have c35b0 := eq_true (of_decide_eq_true vC : t571 ≤ (t569.size : Int))
  simp only [Option.some.injEq, Prod.mk.injEq] at H
  obtain ⟨rfl, rfl, rfl, rfl⟩ := H
  go_wp2
  repeat (go_quiet (first | (go_at_call 70; (with_reducible refine (strings_Cut.calls a0 (⟨#[47]⟩ : ByteArray) t565 t566 t567 _ A2.out).mono ?_); rintro e w' ⟨rfl, ⟨nd, rfl⟩⟩; (try exact dwN)) | (go_at_call 70; (with_reducible refine (strings_Cut.calls t566 (⟨#[58]⟩ : ByteArray) t568 t569 t570 _ A3.out).mono ?_); rintro e w' ⟨rfl, ⟨nd, rfl⟩⟩; (try exact dwN)) | (go_at_call 96; (with_reducible refine (strings_LastIndexByte.calls t569 35 t571 _ A4.out).mono ?_); rintro e w' ⟨rfl, ⟨nd, rfl⟩⟩; (try exact dwN)) | (go_at_call 72; (with_reducible refine (impl_number.calls k t565 t572 _ ?side1 A5.out).mono ?_); (case side1 => exact cq7); rintro e w8 ⟨rfl, hb⟩; replace HB := uH HB hb; (try clear hb)) | (go_at_call 72; (with_reducible refine (impl_number.calls k t568 t573 _ ?side1 A6.out).mono ?_); (case side1 => exact cq7); rintro e w9 ⟨rfl, hb⟩; replace HB := uH HB hb; (try clear hb)) | (go_at_call 55; (with_reducible refine (impl_within.calls t573 1 40 true _ A10.out).mono ?_); rintro e w' ⟨rfl, ⟨nd, rfl⟩⟩; (try exact dwN)) | (go_at_call 55; (with_reducible refine (impl_within.calls t572 0 (wrap64 (t573 - 1)) true _ A12.out).mono ?_); rintro e w' ⟨rfl, ⟨nd, rfl⟩⟩; (try exact dwN)) | (go_at_call 63; (with_reducible refine (impl_chunkText.calls k t572 t573 (t569.extract 0 (t571 : Int).toNat) t577 _ ?side1 A32.out).mono ?_); (case side1 => exact cq7); rintro e w41 ⟨rfl, hb⟩; replace HB := uH HB hb; (try clear hb))); try go_wp2_with (first | (go_at_call 70; (with_reducible refine (strings_Cut.calls a0 (⟨#[47]⟩ : ByteArray) t565 t566 t567 _ A2.out).mono ?_); rintro e w' ⟨rfl, ⟨nd, rfl⟩⟩; (try exact dwN)) | (go_at_call 70; (with_reducible refine (strings_Cut.calls t566 (⟨#[58]⟩ : ByteArray) t568 t569 t570 _ A3.out).mono ?_); rintro e w' ⟨rfl, ⟨nd, rfl⟩⟩; (try exact dwN)) | (go_at_call 96; (with_reducible refine (strings_LastIndexByte.calls t569 35 t571 _ A4.out).mono ?_); rintro e w' ⟨rfl, ⟨nd, rfl⟩⟩; (try exact dwN)) | (go_at_call 72; (with_reducible refine (impl_number.calls k t565 t572 _ ?side1 A5.out).mono ?_); (case side1 => exact cq7); rintro e w8 ⟨rfl, hb⟩; replace HB := uH HB hb; (try clear hb)) | (go_at_call 72; (with_reducible refine (impl_number.calls k t568 t573 _ ?side1 A6.out).mono ?_); (case side1 => exact cq7); rintro e w9 ⟨rfl, hb⟩; replace HB := uH HB hb; (try clear hb)) | (go_at_call 55; (with_reducible refine (impl_within.calls t573 1 40 true _ A10.out).mono ?_); rintro e w' ⟨rfl, ⟨nd, rfl⟩⟩; (try exact dwN)) | (go_at_call 55; (with_reducible refine (impl_within.calls t572 0 (wrap64 (t573 - 1)) true _ A12.out).mono ?_); rintro e w' ⟨rfl, ⟨nd, rfl⟩⟩; (try exact dwN)) | (go_at_call 63; (with_reducible refine (impl_chunkText.calls k t572 t573 (t569.extract 0 (t571 : Int).toNat) t577 _ ?side1 A32.out).mono ?_); (case side1 => exact cq7); rintro e w41 ⟨rfl, hb⟩; replace HB := uH HB hb; (try clear hb))))
  refine bodyPost_ret (vY (rs := [.tmp 2, .tmp 3, .tmp 4, .tmp 5]) rfl (by simp) (.tmp (.tmp (.tmp (.tmp .nil))))) rfl ?_
  exact ⟨cq5, uW⟩
 rw [if_pos c14] at H
 have c14b0 := beq_iff_eq.mpr c14
 have c14b1 := bne_eq_false_iff_eq.mpr c14
 clear c14
 by_cases c15 : t573 > 1
 ·rw [if_pos c15] at H
  have c15b0 := decide_eq_true c15
  clear c15
  simp only [Option.some.injEq, Prod.mk.injEq] at H
  obtain ⟨rfl, rfl, rfl, rfl⟩ := H
  go_wp2
  repeat (go_quiet (first | (go_at_call 70; (with_reducible refine (strings_Cut.calls a0 (⟨#[47]⟩ : ByteArray) t565 t566 t567 _ A2.out).mono ?_); rintro e w' ⟨rfl, ⟨nd, rfl⟩⟩; (try exact dwN)) | (go_at_call 70; (with_reducible refine (strings_Cut.calls t566 (⟨#[58]⟩ : ByteArray) t568 t569 t570 _ A3.out).mono ?_); rintro e w' ⟨rfl, ⟨nd, rfl⟩⟩; (try exact dwN)) | (go_at_call 96; (with_reducible refine (strings_LastIndexByte.calls t569 35 t571 _ A4.out).mono ?_); rintro e w' ⟨rfl, ⟨nd, rfl⟩⟩; (try exact dwN)) | (go_at_call 72; (with_reducible refine (impl_number.calls k t565 t572 _ ?side1 A5.out).mono ?_); (case side1 => exact cq7); rintro e w8 ⟨rfl, hb⟩; replace HB := uH HB hb; (try clear hb)) | (go_at_call 72; (with_reducible refine (impl_number.calls k t568 t573 _ ?side1 A6.out).mono ?_); (case side1 => exact cq7); rintro e w9 ⟨rfl, hb⟩; replace HB := uH HB hb; (try clear hb)) | (go_at_call 55; (with_reducible refine (impl_within.calls t573 1 40 true _ A10.out).mono ?_); rintro e w' ⟨rfl, ⟨nd, rfl⟩⟩; (try exact dwN)) | (go_at_call 55; (with_reducible refine (impl_within.calls t572 0 (wrap64 (t573 - 1)) true _ A12.out).mono ?_); rintro e w' ⟨rfl, ⟨nd, rfl⟩⟩; (try exact dwN))); try go_wp2_with (first | (go_at_call 70; (with_reducible refine (strings_Cut.calls a0 (⟨#[47]⟩ : ByteArray) t565 t566 t567 _ A2.out).mono ?_); rintro e w' ⟨rfl, ⟨nd, rfl⟩⟩; (try exact dwN)) | (go_at_call 70; (with_reducible refine (strings_Cut.calls t566 (⟨#[58]⟩ : ByteArray) t568 t569 t570 _ A3.out).mono ?_); rintro e w' ⟨rfl, ⟨nd, rfl⟩⟩; (try exact dwN)) | (go_at_call 96; (with_reducible refine (strings_LastIndexByte.calls t569 35 t571 _ A4.out).mono ?_); rintro e w' ⟨rfl, ⟨nd, rfl⟩⟩; (try exact dwN)) | (go_at_call 72; (with_reducible refine (impl_number.calls k t565 t572 _ ?side1 A5.out).mono ?_); (case side1 => exact cq7); rintro e w8 ⟨rfl, hb⟩; replace HB := uH HB hb; (try clear hb)) | (go_at_call 72; (with_reducible refine (impl_number.calls k t568 t573 _ ?side1 A6.out).mono ?_); (case side1 => exact cq7); rintro e w9 ⟨rfl, hb⟩; replace HB := uH HB hb; (try clear hb)) | (go_at_call 55; (with_reducible refine (impl_within.calls t573 1 40 true _ A10.out).mono ?_); rintro e w' ⟨rfl, ⟨nd, rfl⟩⟩; (try exact dwN)) | (go_at_call 55; (with_reducible refine (impl_within.calls t572 0 (wrap64 (t573 - 1)) true _ A12.out).mono ?_); rintro e w' ⟨rfl, ⟨nd, rfl⟩⟩; (try exact dwN))))
  refine bodyPost_ret (vY (rs := [.tmp 2, .tmp 3, .tmp 4, .tmp 5]) rfl (by simp) (.tmp (.tmp (.tmp (.tmp .nil))))) rfl ?_
  exact ⟨cq5, uW⟩
 rw [if_neg c15] at H
 have c15b0 := decide_eq_false c15
 clear c15
 by_cases c18 : 0 ≤ t571
 rotate_left
 ·rw [if_neg c18] at H
  exact absurd H (by simp)
 rw [if_pos c18] at H
 have c18b0 := eq_true c18
 have c18b1 := decide_eq_true c18
 clear c18
 by_cases c19 : t571 ≤ (t569.size : Int)
 rotate_left
 ·rw [if_neg c19] at H
  exact absurd H (by simp)
 rw [if_pos c19] at H
 have c19b0 := eq_true c19
 have c19b1 := decide_eq_true c19
 clear c19
 replace H := Option.bind_eq_some_iff.mp H
 obtain ⟨t576, A200, H⟩ := H
 try dsimp only at H
 have A20 := Aside0.mk A200
 clear A200
 go_wp2_with (first | (go_at_call 63; (with_reducible refine (impl_chunkText.calls k t572 t573 (t569.extract 0 (t571 : Int).toNat) t576 _ ?side1 A20.out).mono ?_); (case side1 => exact cq7); rintro e w29 ⟨rfl, hb⟩; replace HB := uH HB hb; (try clear hb); refine ?roundEnd))
 case roundEnd =>
 by_cases c21 : t576.toList = a0.toList
 rotate_left
 ·rw [if_neg c21] at H
  have c21b0 : (t576.toList == a0.toList) = false := beq_eq_false_iff_ne.mpr c21
  have c21b1 : (t576.toList != a0.toList) = true := bne_iff_ne.mpr c21
  simp only [Option.some.injEq, Prod.mk.injEq] at H
  obtain ⟨rfl, rfl, rfl, rfl⟩ := H
  go_wp2
  repeat (go_quiet (first | (go_at_call 70; (with_reducible refine (strings_Cut.calls a0 (⟨#[47]⟩ : ByteArray) t565 t566 t567 _ A2.out).mono ?_); rintro e w' ⟨rfl, ⟨nd, rfl⟩⟩; (try exact dwN)) | (go_at_call 70; (with_reducible refine (strings_Cut.calls t566 (⟨#[58]⟩ : ByteArray) t568 t569 t570 _ A3.out).mono ?_); rintro e w' ⟨rfl, ⟨nd, rfl⟩⟩; (try exact dwN)) | (go_at_call 96; (with_reducible refine (strings_LastIndexByte.calls t569 35 t571 _ A4.out).mono ?_); rintro e w' ⟨rfl, ⟨nd, rfl⟩⟩; (try exact dwN)) | (go_at_call 72; (with_reducible refine (impl_number.calls k t565 t572 _ ?side1 A5.out).mono ?_); (case side1 => exact cq7); rintro e w8 ⟨rfl, hb⟩; replace HB := uH HB hb; (try clear hb)) | (go_at_call 72; (with_reducible refine (impl_number.calls k t568 t573 _ ?side1 A6.out).mono ?_); (case side1 => exact cq7); rintro e w9 ⟨rfl, hb⟩; replace HB := uH HB hb; (try clear hb)) | (go_at_call 55; (with_reducible refine (impl_within.calls t573 1 40 true _ A10.out).mono ?_); rintro e w' ⟨rfl, ⟨nd, rfl⟩⟩; (try exact dwN)) | (go_at_call 55; (with_reducible refine (impl_within.calls t572 0 (wrap64 (t573 - 1)) true _ A12.out).mono ?_); rintro e w' ⟨rfl, ⟨nd, rfl⟩⟩; (try exact dwN)) | (go_at_call 63; (with_reducible refine (impl_chunkText.calls k t572 t573 (t569.extract 0 (t571 : Int).toNat) t576 _ ?side1 A20.out).mono ?_); (case side1 => exact cq7); rintro e w29 ⟨rfl, hb⟩; replace HB := uH HB hb; (try clear hb))); try go_wp2_with (first | (go_at_call 70; (with_reducible refine (strings_Cut.calls a0 (⟨#[47]⟩ : ByteArray) t565 t566 t567 _ A2.out).mono ?_); rintro e w' ⟨rfl, ⟨nd, rfl⟩⟩; (try exact dwN)) | (go_at_call 70; (with_reducible refine (strings_Cut.calls t566 (⟨#[58]⟩ : ByteArray) t568 t569 t570 _ A3.out).mono ?_); rintro e w' ⟨rfl, ⟨nd, rfl⟩⟩; (try exact dwN)) | (go_at_call 96; (with_reducible refine (strings_LastIndexByte.calls t569 35 t571 _ A4.out).mono ?_); rintro e w' ⟨rfl, ⟨nd, rfl⟩⟩; (try exact dwN)) | (go_at_call 72; (with_reducible refine (impl_number.calls k t565 t572 _ ?side1 A5.out).mono ?_); (case side1 => exact cq7); rintro e w8 ⟨rfl, hb⟩; replace HB := uH HB hb; (try clear hb)) | (go_at_call 72; (with_reducible refine (impl_number.calls k t568 t573 _ ?side1 A6.out).mono ?_); (case side1 => exact cq7); rintro e w9 ⟨rfl, hb⟩; replace HB := uH HB hb; (try clear hb)) | (go_at_call 55; (with_reducible refine (impl_within.calls t573 1 40 true _ A10.out).mono ?_); rintro e w' ⟨rfl, ⟨nd, rfl⟩⟩; (try exact dwN)) | (go_at_call 55; (with_reducible refine (impl_within.calls t572 0 (wrap64 (t573 - 1)) true _ A12.out).mono ?_); rintro e w' ⟨rfl, ⟨nd, rfl⟩⟩; (try exact dwN)) | (go_at_call 63; (with_reducible refine (impl_chunkText.calls k t572 t573 (t569.extract 0 (t571 : Int).toNat) t576 _ ?side1 A20.out).mono ?_); (case side1 => exact cq7); rintro e w29 ⟨rfl, hb⟩; replace HB := uH HB hb; (try clear hb))))
  refine bodyPost_ret (vY (rs := [.tmp 2, .tmp 3, .tmp 4, .tmp 5]) rfl (by simp) (.tmp (.tmp (.tmp (.tmp .nil))))) rfl ?_
  exact ⟨cq5, uW⟩
 rw [if_pos c21] at H
 have c21b0 : (t576.toList == a0.toList) = true := beq_iff_eq.mpr c21
 have c21b1 : (t576.toList != a0.toList) = false := bne_eq_false_iff_eq.mpr c21
 clear c21
 have c22b0 := eq_true (of_decide_eq_true vC : 0 ≤ t571)
 have c23b0 := eq_true (of_decide_eq_true vC : t571 ≤ (t569.size : Int))
 simp only [Option.some.injEq, Prod.mk.injEq] at H
 obtain ⟨rfl, rfl, rfl, rfl⟩ := H
 go_wp2
 repeat (go_quiet (first | (go_at_call 70; (with_reducible refine (strings_Cut.calls a0 (⟨#[47]⟩ : ByteArray) t565 t566 t567 _ A2.out).mono ?_); rintro e w' ⟨rfl, ⟨nd, rfl⟩⟩; (try exact dwN)) | (go_at_call 70; (with_reducible refine (strings_Cut.calls t566 (⟨#[58]⟩ : ByteArray) t568 t569 t570 _ A3.out).mono ?_); rintro e w' ⟨rfl, ⟨nd, rfl⟩⟩; (try exact dwN)) | (go_at_call 96; (with_reducible refine (strings_LastIndexByte.calls t569 35 t571 _ A4.out).mono ?_); rintro e w' ⟨rfl, ⟨nd, rfl⟩⟩; (try exact dwN)) | (go_at_call 72; (with_reducible refine (impl_number.calls k t565 t572 _ ?side1 A5.out).mono ?_); (case side1 => exact cq7); rintro e w8 ⟨rfl, hb⟩; replace HB := uH HB hb; (try clear hb)) | (go_at_call 72; (with_reducible refine (impl_number.calls k t568 t573 _ ?side1 A6.out).mono ?_); (case side1 => exact cq7); rintro e w9 ⟨rfl, hb⟩; replace HB := uH HB hb; (try clear hb)) | (go_at_call 55; (with_reducible refine (impl_within.calls t573 1 40 true _ A10.out).mono ?_); rintro e w' ⟨rfl, ⟨nd, rfl⟩⟩; (try exact dwN)) | (go_at_call 55; (with_reducible refine (impl_within.calls t572 0 (wrap64 (t573 - 1)) true _ A12.out).mono ?_); rintro e w' ⟨rfl, ⟨nd, rfl⟩⟩; (try exact dwN)) | (go_at_call 63; (with_reducible refine (impl_chunkText.calls k t572 t573 (t569.extract 0 (t571 : Int).toNat) t576 _ ?side1 A20.out).mono ?_); (case side1 => exact cq7); rintro e w29 ⟨rfl, hb⟩; replace HB := uH HB hb; (try clear hb))); try go_wp2_with (first | (go_at_call 70; (with_reducible refine (strings_Cut.calls a0 (⟨#[47]⟩ : ByteArray) t565 t566 t567 _ A2.out).mono ?_); rintro e w' ⟨rfl, ⟨nd, rfl⟩⟩; (try exact dwN)) | (go_at_call 70; (with_reducible refine (strings_Cut.calls t566 (⟨#[58]⟩ : ByteArray) t568 t569 t570 _ A3.out).mono ?_); rintro e w' ⟨rfl, ⟨nd, rfl⟩⟩; (try exact dwN)) | (go_at_call 96; (with_reducible refine (strings_LastIndexByte.calls t569 35 t571 _ A4.out).mono ?_); rintro e w' ⟨rfl, ⟨nd, rfl⟩⟩; (try exact dwN)) | (go_at_call 72; (with_reducible refine (impl_number.calls k t565 t572 _ ?side1 A5.out).mono ?_); (case side1 => exact cq7); rintro e w8 ⟨rfl, hb⟩; replace HB := uH HB hb; (try clear hb)) | (go_at_call 72; (with_reducible refine (impl_number.calls k t568 t573 _ ?side1 A6.out).mono ?_); (case side1 => exact cq7); rintro e w9 ⟨rfl, hb⟩; replace HB := uH HB hb; (try clear hb)) | (go_at_call 55; (with_reducible refine (impl_within.calls t573 1 40 true _ A10.out).mono ?_); rintro e w' ⟨rfl, ⟨nd, rfl⟩⟩; (try exact dwN)) | (go_at_call 55; (with_reducible refine (impl_within.calls t572 0 (wrap64 (t573 - 1)) true _ A12.out).mono ?_); rintro e w' ⟨rfl, ⟨nd, rfl⟩⟩; (try exact dwN)) | (go_at_call 63; (with_reducible refine (impl_chunkText.calls k t572 t573 (t569.extract 0 (t571 : Int).toNat) t576 _ ?side1 A20.out).mono ?_); (case side1 => exact cq7); rintro e w29 ⟨rfl, hb⟩; replace HB := uH HB hb; (try clear hb))))
 refine bodyPost_ret (vY (rs := [.tmp 2, .tmp 3, .tmp 4, .tmp 5]) rfl (by simp) (.tmp (.tmp (.tmp (.tmp .nil))))) rfl ?_
 exact ⟨cq5, uW⟩

/-! ### impl_ReceiveChunk: function 22 -/
def impl_ReceiveChunk.j0 : Nat → List ByteArray → ByteArray → List ByteArray → Int → Int → Bool → Bool → Option (List ByteArray × Bool)
 | 0, _, _, _, _, _, _, _ => none
 | k + 1, x0, x1, x6, x7, x8, x10, x25 => if x25 = true then (if 0 ≤ x8 then (if (x8 : Int).toNat ≤ 17592186044416 then ((some (List.replicate (x8 : Int).toNat (⟨#[]⟩ : ByteArray) : List ByteArray)).bind fun y585 => (if x10 = true then (if (y585.length : Int) = x8 then (if 0 ≤ x7 then (if x7 < (y585.length : Int) then (if (rdOf ByteArray.empty y585 x7).toList = ([] : List UInt8) then (some ((y585.set (x7 : Int).toNat x1), true)) else ((slices_Clone_string_string.f x0).bind fun t590 => (some (t590, false)))) else (none)) else (none)) else ((slices_Clone_string_string.f x0).bind fun t593 => (some (t593, false)))) else ((slices_Clone_string_string.f x0).bind fun t596 => (some (t596, false))))) else (none)) else (none)) else (if x10 = true then (if (x6.length : Int) = x8 then (if 0 ≤ x7 then (if x7 < (x6.length : Int) then (if (rdOf ByteArray.empty x6 x7).toList = ([] : List UInt8) then (some ((x6.set (x7 : Int).toNat x1), true)) else ((slices_Clone_string_string.f x0).bind fun t601 => (some (t601, false)))) else (none)) else (none)) else ((slices_Clone_string_string.f x0).bind fun t604 => (some (t604, false)))) else ((slices_Clone_string_string.f x0).bind fun t607 => (some (t607, false))))
def impl_ReceiveChunk.f (k : Nat) (l0 : List ByteArray) (a1 : ByteArray) : Option (List ByteArray × Bool) := (slices_Clone_string_string.f l0).bind fun t578 => ((impl_readChunk.f k a1).bind fun bt581 => (if bt581.2.2.2 = true then (impl_ReceiveChunk.j0 k l0 a1 t578 bt581.1 bt581.2.1 bt581.2.2.2 ((t578.length : Int) == 0)) else (impl_ReceiveChunk.j0 k l0 a1 t578 bt581.1 bt581.2.1 bt581.2.2.2 false)))
theorem impl_ReceiveChunk.mono_l : ∀ k, (∀ y0 y1 y2 y3 y4 y5 y6, uA (impl_ReceiveChunk.j0 k y0 y1 y2 y3 y4 y5 y6) (impl_ReceiveChunk.j0 (k + 1) y0 y1 y2 y3 y4 y5 y6))
 | 0 => fun _ _ _ _ _ _ _ r h => by simp [impl_ReceiveChunk.j0] at h
 | k + 1 => by
  have ih0 := impl_ReceiveChunk.mono_l k
  intro y0 y1 y2 y3 y4 y5 y6
  unfold impl_ReceiveChunk.j0
  repeat' first
  | (with_reducible exact ih0 _ _ _ _ _ _ _)
  | (with_reducible exact impl_readChunk.mono _ _)
  | (with_reducible exact uA.refl _)
  | (with_reducible exact uA.none _)
  | (with_reducible refine uA.vA ?_ ?_)
  | (with_reducible refine uA.bind ?_ (fun _ => ?_))
  | exact ih0 _ _ _ _ _ _ _
  | exact uA.none _
  | refine uA.vA ?_ ?_
  | refine uA.bind ?_ (fun _ => ?_)
theorem impl_ReceiveChunk.mono : ∀ a0 a1 k, uA (impl_ReceiveChunk.f k a0 a1) (impl_ReceiveChunk.f (k + 1) a0 a1) := by
 intro a0 a1 k
 have ih0 := impl_ReceiveChunk.mono_l k
 unfold impl_ReceiveChunk.f
 repeat' first
   | (with_reducible exact ih0 _ _ _ _ _ _ _)
   | (with_reducible exact impl_readChunk.mono _ _)
   | (with_reducible exact uA.refl _)
   | (with_reducible exact uA.none _)
   | (with_reducible refine uA.vA ?_ ?_)
   | (with_reducible refine uA.bind ?_ (fun _ => ?_))
   | exact ih0 _ _ _ _ _ _ _
   | exact uA.none _
   | refine uA.vA ?_ ?_
   | refine uA.bind ?_ (fun _ => ?_)
set_option maxHeartbeats 8000000 in
set_option maxRecDepth 100000 in
theorem impl_ReceiveChunk.calls (k : Nat) (A0 : Option Addr) (c0 : Nat) (l0 : List ByteArray) (a1 : ByteArray) (r1 : List ByteArray) (r2 : Bool) (w : World) (hr0 : Kd.C Kd.string w A0 l0.length l0) (hc0 : l0.length ≤ c0) (hWF : WF w) (h : impl_ReceiveChunk.f k l0 a1 = some (r1, r2)) :
  Calls Tryd.prog 22 #[.slice A0 l0.length c0, .string a1] w fun e w' => ∃ v0_ : Value, e = .returned (.tuple #[v0_, .bool r2]) ∧ Kd.R Kd.string 9 w' w.heap.size (fun _ => True) v0_ r1 ∧ Below w.heap.size w w' := by
 have HR0 := Aside0.mk hr0
 have HC0 := Aside0.mk hc0
 clear hr0 hc0
 have HB := Aside0.mk (Below.refl w.heap.size w)
 have H : ((slices_Clone_string_string.f l0).bind fun t578 => ((impl_readChunk.f k a1).bind fun bt581 => (if bt581.2.2.2 = true then (impl_ReceiveChunk.j0 k l0 a1 t578 bt581.1 bt581.2.1 bt581.2.2.2 ((t578.length : Int) == 0)) else (impl_ReceiveChunk.j0 k l0 a1 t578 bt581.1 bt581.2.1 bt581.2.2.2 false)))) = some (r1, r2) := h
 clear h
 replace H := Option.bind_eq_some_iff.mp H
 obtain ⟨t578, A30, H⟩ := H
 try dsimp only at H
 have A3 := Aside0.mk A30
 clear A30
 replace H := Option.bind_eq_some_iff.mp H
 obtain ⟨⟨t581, t582, t583, t584⟩, A40, H⟩ := H
 try dsimp only at H
 have A4 := Aside0.mk A40
 clear A40
 have HC5 := Aside0.mk H
 clear H
 go_enter Tryd.func22, Tryd.ntmps22
 go_upto_region 3 with (first | ((with_reducible refine uB (f := 58) rfl ?_); refine uL (some 12) Tryd.func58 #[.slice A0 l0.length c0] ?_; (with_reducible refine (slices_Clone_string_string.calls _ _ l0 t578 _ ?side1 ?side2 A3.out).mono ?_); (case side1 => exact cq16); (case side2 => exact HC0.out); rintro e w6 ⟨v579, rfl, ho0, hb⟩; refine ⟨_, rfl, ?_⟩; have HO580 := Aside0.mk (Kd.uN ho0 (uR uW)); replace HB := uH HB hb; (try clear hb); (try clear ho0)) | ((with_reducible refine uB (f := 59) rfl ?_); refine uL (some 15) Tryd.func59 #[.string a1] ?_; (with_reducible refine (impl_readChunk.calls k a1 t581 t582 t583 t584 _ ?side1 A4.out).mono ?_); (case side1 => exact cq7); rintro e w7 ⟨rfl, hb⟩; refine ⟨_, rfl, ?_⟩; replace HO580 := Kd.tR HO580 hb; replace HB := uH HB hb; (try clear hb)))
 (try simp only [Act.put, vZ, yA, yB])
 go_cut [25] (fun v25 wc => ∃ (kq : Nat) (x25_4 : Bool), v25 = .bool x25_4 ∧ Aside0 (impl_ReceiveChunk.j0 kq l0 a1 t578 t581 t582 t584 x25_4 = some (r1, r2)) ∧ Aside0 (kq ≤ k) ∧ Aside0 (Kd.R Kd.string 9 wc w.heap.size (fun _ => True) v579 t578) ∧ Aside0 (Below w.heap.size w wc))
 case first =>
  have H := HC5.out
  clear HC5
  by_cases c8 : t584 = true
  rotate_left
  ·replace c8 := Bool.eq_false_iff.mpr c8
   subst c8
   try rw [if_neg (show ¬ (false = true) by decide)] at H
   have H' := Aside0.mk H
   clear H
   go_wp2
   go_meet
   case rel => exact ⟨_, (false), vD, H', ⟨by first | omega | exact Nat.le_refl _⟩, ⟨by (with_reducible repeat (first | apply Kd.uK | apply Kd.uJ | apply Kd.uO)); exact HO580.out⟩, ⟨uW⟩⟩
  subst c8
  try rw [if_pos rfl] at H
  have H' := Aside0.mk H
  clear H
  obtain ⟨Ao9, co9, eo9⟩ := Kd.uS HO580.out
  subst eo9
  go_wp2
  go_meet
  case rel => exact ⟨_, (((t578.length : Int) == 0)), vD, H', ⟨by first | omega | exact Nat.le_refl _⟩, ⟨by (with_reducible repeat (first | apply Kd.uK | apply Kd.uJ | apply Kd.uO)); exact HO580.out⟩, ⟨uW⟩⟩
 case rest =>
  clear HC5
  obtain ⟨kq, x25_4, rfl, HA, HJ4, HO_6, HB⟩ := hcut
  cases kq with
  | zero => exact absurd HA.out (by simp [impl_ReceiveChunk.j0])
  | succ kj4 =>
   have H := HA.out
   clear HA
   simp only [impl_ReceiveChunk.j0] at H
   by_cases c10 : x25_4 = true
   rotate_left
   ·replace c10 := Bool.eq_false_iff.mpr c10
    subst c10
    try rw [if_neg (show ¬ (false = true) by decide)] at H
    by_cases c38 : t584 = true
    rotate_left
    ·replace c38 := Bool.eq_false_iff.mpr c38
     subst c38
     try rw [if_neg (show ¬ (false = true) by decide)] at H
     replace H := Option.bind_eq_some_iff.mp H
     obtain ⟨t607, A530, H⟩ := H
     try dsimp only at H
     have A53 := Aside0.mk A530
     clear A530
     simp only [Option.some.injEq, Prod.mk.injEq] at H
     obtain ⟨rfl, rfl⟩ := H
     go_wp2_with (first | ((with_reducible refine uB (f := 58) rfl ?_); refine uL (some 44) Tryd.func58 #[.slice A0 l0.length c0] ?_; (with_reducible refine (slices_Clone_string_string.calls _ _ l0 t607 _ ?side1 ?side2 A53.out).mono ?_); (case side1 => exact cq12); (case side2 => exact HC0.out); rintro e w54 ⟨v608, rfl, ho0, hb⟩; refine ⟨_, rfl, ?_⟩; have HO609 := Aside0.mk (Kd.uN (Kd.vJ ho0 (Kd.R_lt (uT HO_6.out))) (uR uW)); replace HO_6 := Aside0.mk (Kd.vF (uT HO_6.out) (Kd.vK ho0) hb); replace HB := uH HB hb; (try clear hb); (try clear ho0)))
     go_ret2
     exact ⟨_, cq5, by (with_reducible repeat (first | apply Kd.uK | apply Kd.uJ | apply Kd.uO)); exact Kd.uG HO609.out (fun _ hk => trivial), uW⟩
    subst c38
    try rw [if_pos rfl] at H
    by_cases c39 : (t578.length : Int) = t582
    rotate_left
    ·rw [if_neg c39] at H
     have c39b0 := beq_eq_false_iff_ne.mpr c39
     have c39b1 := bne_iff_ne.mpr c39
     replace H := Option.bind_eq_some_iff.mp H
     obtain ⟨t604, A500, H⟩ := H
     try dsimp only at H
     have A50 := Aside0.mk A500
     clear A500
     simp only [Option.some.injEq, Prod.mk.injEq] at H
     obtain ⟨rfl, rfl⟩ := H
     obtain ⟨Ao51, co51, eo51⟩ := Kd.uS HO_6.out
     subst eo51
     go_wp2_with (first | ((with_reducible refine uB (f := 58) rfl ?_); refine uL (some 44) Tryd.func58 #[.slice A0 l0.length c0] ?_; (with_reducible refine (slices_Clone_string_string.calls _ _ l0 t604 _ ?side1 ?side2 A50.out).mono ?_); (case side1 => exact cq12); (case side2 => exact HC0.out); rintro e w52 ⟨v605, rfl, ho0, hb⟩; refine ⟨_, rfl, ?_⟩; have HO606 := Aside0.mk (Kd.uN (Kd.vJ ho0 (Kd.R_lt (uT HO_6.out))) (uR uW)); replace HO_6 := Aside0.mk (Kd.vF (uT HO_6.out) (Kd.vK ho0) hb); replace HB := uH HB hb; (try clear hb); (try clear ho0)))
     go_ret2
     exact ⟨_, cq5, by (with_reducible repeat (first | apply Kd.uK | apply Kd.uJ | apply Kd.uO)); exact Kd.uG HO606.out (fun _ hk => trivial), uW⟩
    rw [if_pos c39] at H
    have c39b0 := beq_iff_eq.mpr c39
    have c39b1 := bne_eq_false_iff_eq.mpr c39
    clear c39
    obtain ⟨c40b0, H⟩ := ifD H
    obtain ⟨c41b0, H⟩ := ifD H
    by_cases c42 : (rdOf ByteArray.empty t578 t581).toList = ([] : List UInt8)
    rotate_left
    ·rw [if_neg c42] at H
     have c42b0 : ((rdOf ByteArray.empty t578 t581).toList == ([] : List UInt8)) = false := beq_eq_false_iff_ne.mpr c42
     have c42b1 : ((rdOf ByteArray.empty t578 t581).toList != ([] : List UInt8)) = true := bne_iff_ne.mpr c42
     replace H := Option.bind_eq_some_iff.mp H
     obtain ⟨t601, A470, H⟩ := H
     try dsimp only at H
     have A47 := Aside0.mk A470
     clear A470
     simp only [Option.some.injEq, Prod.mk.injEq] at H
     obtain ⟨rfl, rfl⟩ := H
     obtain ⟨Ao48, co48, eo48⟩ := Kd.uS HO_6.out
     subst eo48
     have p599 : 0 ≤ (t581 : Int) := of_decide_eq_true vC
     have q599 : t581 < (t578.length : Int) := of_decide_eq_true vC
     obtain ⟨ad599, e599, hx599_0⟩ := Kd.vS (Kd.uY HO_6.out).2.2 t581 p599 q599
     cases e599
     replace p599 := eq_true p599
     replace q599 := eq_true q599
     go_wp2_with (first | ((with_reducible refine uB (f := 58) rfl ?_); refine uL (some 44) Tryd.func58 #[.slice A0 l0.length c0] ?_; (with_reducible refine (slices_Clone_string_string.calls _ _ l0 t601 _ ?side1 ?side2 A47.out).mono ?_); (case side1 => exact cq12); (case side2 => exact HC0.out); rintro e w49 ⟨v602, rfl, ho0, hb⟩; refine ⟨_, rfl, ?_⟩; have HO603 := Aside0.mk (Kd.uN (Kd.vJ ho0 (Kd.R_lt (uT HO_6.out))) (uR uW)); replace HO_6 := Aside0.mk (Kd.vF (uT HO_6.out) (Kd.vK ho0) hb); replace HB := uH HB hb; (try clear hb); (try clear ho0)))
     go_ret2
     exact ⟨_, cq5, by (with_reducible repeat (first | apply Kd.uK | apply Kd.uJ | apply Kd.uO)); exact Kd.uG HO603.out (fun _ hk => trivial), uW⟩
    rw [if_pos c42] at H
    have c42b0 : ((rdOf ByteArray.empty t578 t581).toList == ([] : List UInt8)) = true := beq_iff_eq.mpr c42
    have c42b1 : ((rdOf ByteArray.empty t578 t581).toList != ([] : List UInt8)) = false := bne_eq_false_iff_eq.mpr c42
    clear c42
    obtain ⟨y600, hy600⟩ : ∃ y_ : List ByteArray, y_ = (t578.set (t581 : Int).toNat a1) := ⟨_, rfl⟩
    replace H : (some (y600, true)) = some (r1, r2) := rpl hy600 H
    have Ny600 := Aside0.mk hy600
    clear hy600
    simp only [Option.some.injEq, Prod.mk.injEq] at H
    obtain ⟨rfl, rfl⟩ := H
    obtain ⟨Ao44, co44, eo44⟩ := Kd.uS HO_6.out
    subst eo44
    have p599 : 0 ≤ (t581 : Int) := of_decide_eq_true vC
    have q599 : t581 < (t578.length : Int) := of_decide_eq_true vC
    obtain ⟨ad599, e599, hx599_0⟩ := Kd.vS (Kd.uY HO_6.out).2.2 t581 p599 q599
    cases e599
    replace p599 := eq_true p599
    replace q599 := eq_true q599
    have p43 : 0 ≤ (t581 : Int) := of_decide_eq_true vC
    have q43 : (t581 : Int) < ((t578.length : Int) : Int) := of_decide_eq_true vC
    obtain ⟨go43, co43, eo43, gb43, gl43, cl43, HG43⟩ := Kd.R_form HO_6.out (by omega)
    (first | cases eo43 | (injection eo43 with ea_ en_ ec_; (first | subst ea_ | (injection ea_ with ea_; subst ea_)); subst ec_; clear en_))
    have GB43 := Aside0.mk gb43
    have GG43 := Aside0.mk HG43
    clear gb43 gl43 HG43
    (first | simp only [add_plain] at hx599_0 | skip)
    obtain ⟨hx43_0, hf43_0⟩ := Kd.R_celln (⟨#[]⟩ : ByteArray) HO_6.out (t581 : Int) p43 q43
    replace p43 := eq_true p43
    replace q43 := eq_true q43
    have HP45 := Kd.R_putg HO_6.out (t581 : Int) a1
    go_wp2_with (first | ((with_reducible refine vU (t := 9) (p := 48) rfl ?_); refine vR (t := 9) (p := 48) (v := ?vo_w46) (w1 := (wc.setCell ⟨go43, (t581 : Int).toNat, none⟩ (.string a1))) ?hg ?ho ?hn ?hr ?_; (case ho => rfl); (case hg => rfl); (case hn => rfl); (case hr => first | (go_simp; done) | (go_simp; rfl)); intro w46 hw; have hg : wc.grownBy w46 (some go43) := (by rw [hw]; exact HP45.2); have hp_ : Kd.R Kd.string 9 w46 w.heap.size (fun _ => True) (.slice (some ⟨go43, 0, none⟩) t578.length co44) y600 := (by rw [hw, Ny600.out]; exact HP45.1); clear HP45; replace HO_6 := Aside0.mk (hp_); replace HB := Aside0.mk ((by rw [hw]; exact below_set (HB.out) GB43.out : Below w.heap.size w w46)); clear hg hw hp_))
    go_ret2
    exact ⟨_, cq5, by (with_reducible repeat (first | apply Kd.uK | apply Kd.uJ | apply Kd.uO)); exact HO_6.out, uW⟩
   subst c10
   try rw [if_pos rfl] at H
   by_cases c11 : 0 ≤ t582
   rotate_left
   ·rw [if_neg c11] at H
    exact absurd H (by simp)
   rw [if_pos c11] at H
   have c11b0 := eq_true c11
   have c11b1 := decide_eq_true c11
   clear c11
   by_cases c12 : (t582 : Int).toNat ≤ 17592186044416
   rotate_left
   ·rw [if_neg c12] at H
    exact absurd H (by simp)
   rw [if_pos c12] at H
   have c12b0 := eq_true c12
   have c12b1 := decide_eq_true c12
   clear c12
   obtain ⟨y585, hy585⟩ : ∃ y_ : List ByteArray, y_ = (List.replicate (t582 : Int).toNat (⟨#[]⟩ : ByteArray)) := ⟨_, rfl⟩
   replace H : (if t584 = true then (if (y585.length : Int) = t582 then (if 0 ≤ t581 then (if t581 < (y585.length : Int) then (if (rdOf ByteArray.empty y585 t581).toList = ([] : List UInt8) then (some ((y585.set (t581 : Int).toNat a1), true)) else ((slices_Clone_string_string.f l0).bind fun t590 => (some (t590, false)))) else (none)) else (none)) else ((slices_Clone_string_string.f l0).bind fun t593 => (some (t593, false)))) else ((slices_Clone_string_string.f l0).bind fun t596 => (some (t596, false)))) = some (r1, r2) := rpl hy585 H
   have Ny585 := Aside0.mk hy585
   clear hy585
   by_cases c13 : t584 = true
   rotate_left
   ·replace c13 := Bool.eq_false_iff.mpr c13
    subst c13
    try rw [if_neg (show ¬ (false = true) by decide)] at H
    replace H := Option.bind_eq_some_iff.mp H
    obtain ⟨t596, A340, H⟩ := H
    try dsimp only at H
    have A34 := Aside0.mk A340
    clear A340
    simp only [Option.some.injEq, Prod.mk.injEq] at H
    obtain ⟨rfl, rfl⟩ := H
    go_wp2_with (first | ((with_reducible refine uQ (N := 27) rfl ?_); refine Kd.R_make Kd.string _ 9 rfl (N := 27) rfl 37 _ _ rfl t582 rfl rfl Tryd.underlying37 (.string ⟨#[]⟩) 16 info9 rfl (by decide) (by omega) (⟨#[]⟩ : ByteArray) (ok := fun _ => True) (okp := fun _ => True) rfl (fun _ hk => hk) trivial (of_decide_eq_true vC) (Nat.le_trans (Nat.mul_le_mul_right _ (of_decide_eq_true vC : t582.toNat ≤ 17592186044416)) (by omega)) (Below.refl _ _) (Nat.le_refl _) ?_; intro v586 w35 ho36 hb hg_ hnew_; clear hg_ hnew_; (first | rw [← Ny585.out] at ho36 | (simp only [Int.reduceToNat] at ho36; rw [← Ny585.out] at ho36)); have HO587 := Aside0.mk (Kd.uN (Kd.vJ ho36 (Kd.R_lt (uT HO_6.out))) (uR uW)); replace HO_6 := Aside0.mk (Kd.vF (uT HO_6.out) (Kd.vK ho36) hb); replace HB := uH HB hb; clear hb ho36) | ((with_reducible refine uB (f := 58) rfl ?_); refine uL (some 44) Tryd.func58 #[.slice A0 l0.length c0] ?_; (with_reducible refine (slices_Clone_string_string.calls _ _ l0 t596 _ ?side1 ?side2 A34.out).mono ?_); (case side1 => exact cq12); (case side2 => exact HC0.out); rintro e w37 ⟨v597, rfl, ho0, hb⟩; refine ⟨_, rfl, ?_⟩; have HO598 := Aside0.mk (Kd.uN (Kd.vJ (Kd.vJ ho0 (Kd.R_lt (uT HO_6.out))) (Kd.R_lt (uT HO587.out))) (uR uW)); replace HO_6 := Aside0.mk (Kd.vF (uT HO_6.out) (Kd.vK ho0) hb); replace HO587 := Aside0.mk (Kd.vF (uT HO587.out) (Kd.vK ho0) hb); replace HB := uH HB hb; (try clear hb); (try clear ho0)))
    go_ret2
    exact ⟨_, cq5, by (with_reducible repeat (first | apply Kd.uK | apply Kd.uJ | apply Kd.uO)); exact Kd.uG HO598.out (fun _ hk => trivial), uW⟩
   subst c13
   try rw [if_pos rfl] at H
   by_cases c14 : (y585.length : Int) = t582
   rotate_left
   ·rw [if_neg c14] at H
    have c14b0 := beq_eq_false_iff_ne.mpr c14
    have c14b1 := bne_iff_ne.mpr c14
    replace H := Option.bind_eq_some_iff.mp H
    obtain ⟨t593, A290, H⟩ := H
    try dsimp only at H
    have A29 := Aside0.mk A290
    clear A290
    simp only [Option.some.injEq, Prod.mk.injEq] at H
    obtain ⟨rfl, rfl⟩ := H
    go_wp2_with (first | ((with_reducible refine uQ (N := 27) rfl ?_); refine Kd.R_make Kd.string _ 9 rfl (N := 27) rfl 37 _ _ rfl t582 rfl rfl Tryd.underlying37 (.string ⟨#[]⟩) 16 info9 rfl (by decide) (by omega) (⟨#[]⟩ : ByteArray) (ok := fun _ => True) (okp := fun _ => True) rfl (fun _ hk => hk) trivial (of_decide_eq_true vC) (Nat.le_trans (Nat.mul_le_mul_right _ (of_decide_eq_true vC : t582.toNat ≤ 17592186044416)) (by omega)) (Below.refl _ _) (Nat.le_refl _) ?_; intro v586 w30 ho31 hb hg_ hnew_; clear hg_ hnew_; (first | rw [← Ny585.out] at ho31 | (simp only [Int.reduceToNat] at ho31; rw [← Ny585.out] at ho31)); have HO587 := Aside0.mk (Kd.uN (Kd.vJ ho31 (Kd.R_lt (uT HO_6.out))) (uR uW)); replace HO_6 := Aside0.mk (Kd.vF (uT HO_6.out) (Kd.vK ho31) hb); replace HB := uH HB hb; clear hb ho31; obtain ⟨Ao32, co32, eo32⟩ := Kd.uS HO587.out; subst eo32) | ((with_reducible refine uB (f := 58) rfl ?_); refine uL (some 44) Tryd.func58 #[.slice A0 l0.length c0] ?_; (with_reducible refine (slices_Clone_string_string.calls _ _ l0 t593 _ ?side1 ?side2 A29.out).mono ?_); (case side1 => exact cq12); (case side2 => exact HC0.out); rintro e w33 ⟨v594, rfl, ho0, hb⟩; refine ⟨_, rfl, ?_⟩; have HO595 := Aside0.mk (Kd.uN (Kd.vJ (Kd.vJ ho0 (Kd.R_lt (uT HO_6.out))) (Kd.R_lt (uT HO587.out))) (uR uW)); replace HO_6 := Aside0.mk (Kd.vF (uT HO_6.out) (Kd.vK ho0) hb); replace HO587 := Aside0.mk (Kd.vF (uT HO587.out) (Kd.vK ho0) hb); replace HB := uH HB hb; (try clear hb); (try clear ho0)))
    go_ret2
    exact ⟨_, cq5, by (with_reducible repeat (first | apply Kd.uK | apply Kd.uJ | apply Kd.uO)); exact Kd.uG HO595.out (fun _ hk => trivial), uW⟩
   rw [if_pos c14] at H
   have c14b0 := beq_iff_eq.mpr c14
   have c14b1 := bne_eq_false_iff_eq.mpr c14
   clear c14
   obtain ⟨c15b0, H⟩ := ifD H
   obtain ⟨c16b0, H⟩ := ifD H
   by_cases c17 : (rdOf ByteArray.empty y585 t581).toList = ([] : List UInt8)
   rotate_left
   ·rw [if_neg c17] at H
    have c17b0 : ((rdOf ByteArray.empty y585 t581).toList == ([] : List UInt8)) = false := beq_eq_false_iff_ne.mpr c17
    have c17b1 : ((rdOf ByteArray.empty y585 t581).toList != ([] : List UInt8)) = true := bne_iff_ne.mpr c17
    replace H := Option.bind_eq_some_iff.mp H
    obtain ⟨t590, A240, H⟩ := H
    try dsimp only at H
    have A24 := Aside0.mk A240
    clear A240
    simp only [Option.some.injEq, Prod.mk.injEq] at H
    obtain ⟨rfl, rfl⟩ := H
    go_wp2_with (first | ((with_reducible refine uQ (N := 27) rfl ?_); refine Kd.R_make Kd.string _ 9 rfl (N := 27) rfl 37 _ _ rfl t582 rfl rfl Tryd.underlying37 (.string ⟨#[]⟩) 16 info9 rfl (by decide) (by omega) (⟨#[]⟩ : ByteArray) (ok := fun _ => True) (okp := fun _ => True) rfl (fun _ hk => hk) trivial (of_decide_eq_true vC) (Nat.le_trans (Nat.mul_le_mul_right _ (of_decide_eq_true vC : t582.toNat ≤ 17592186044416)) (by omega)) (Below.refl _ _) (Nat.le_refl _) ?_; intro v586 w25 ho26 hb hg_ hnew_; clear hg_ hnew_; (first | rw [← Ny585.out] at ho26 | (simp only [Int.reduceToNat] at ho26; rw [← Ny585.out] at ho26)); have HO587 := Aside0.mk (Kd.uN (Kd.vJ ho26 (Kd.R_lt (uT HO_6.out))) (uR uW)); replace HO_6 := Aside0.mk (Kd.vF (uT HO_6.out) (Kd.vK ho26) hb); replace HB := uH HB hb; clear hb ho26; obtain ⟨Ao27, co27, eo27⟩ := Kd.uS HO587.out; subst eo27; have p588 : 0 ≤ (t581 : Int) := of_decide_eq_true vC; have q588 : t581 < (y585.length : Int) := of_decide_eq_true vC; obtain ⟨ad588, e588, hx588_0⟩ := Kd.vS (Kd.uY HO587.out).2.2 t581 p588 q588; cases e588; replace p588 := eq_true p588; replace q588 := eq_true q588) | ((with_reducible refine uB (f := 58) rfl ?_); refine uL (some 44) Tryd.func58 #[.slice A0 l0.length c0] ?_; (with_reducible refine (slices_Clone_string_string.calls _ _ l0 t590 _ ?side1 ?side2 A24.out).mono ?_); (case side1 => exact cq12); (case side2 => exact HC0.out); rintro e w28 ⟨v591, rfl, ho0, hb⟩; refine ⟨_, rfl, ?_⟩; have HO592 := Aside0.mk (Kd.uN (Kd.vJ (Kd.vJ ho0 (Kd.R_lt (uT HO_6.out))) (Kd.R_lt (uT HO587.out))) (uR uW)); replace HO_6 := Aside0.mk (Kd.vF (uT HO_6.out) (Kd.vK ho0) hb); replace HO587 := Aside0.mk (Kd.vF (uT HO587.out) (Kd.vK ho0) hb); replace HB := uH HB hb; (try clear hb); (try clear ho0)))
    go_ret2
    exact ⟨_, cq5, by (with_reducible repeat (first | apply Kd.uK | apply Kd.uJ | apply Kd.uO)); exact Kd.uG HO592.out (fun _ hk => trivial), uW⟩
   rw [if_pos c17] at H
   have c17b0 : ((rdOf ByteArray.empty y585 t581).toList == ([] : List UInt8)) = true := beq_iff_eq.mpr c17
   have c17b1 : ((rdOf ByteArray.empty y585 t581).toList != ([] : List UInt8)) = false := bne_eq_false_iff_eq.mpr c17
   clear c17
   obtain ⟨y589, hy589⟩ : ∃ y_ : List ByteArray, y_ = (y585.set (t581 : Int).toNat a1) := ⟨_, rfl⟩
   replace H : (some (y589, true)) = some (r1, r2) := rpl hy589 H
   have Ny589 := Aside0.mk hy589
   clear hy589
   simp only [Option.some.injEq, Prod.mk.injEq] at H
   obtain ⟨rfl, rfl⟩ := H
   go_wp2_with (first | ((with_reducible refine uQ (N := 27) rfl ?_); refine Kd.R_make Kd.string _ 9 rfl (N := 27) rfl 37 _ _ rfl t582 rfl rfl Tryd.underlying37 (.string ⟨#[]⟩) 16 info9 rfl (by decide) (by omega) (⟨#[]⟩ : ByteArray) (ok := fun _ => True) (okp := fun _ => True) rfl (fun _ hk => hk) trivial (of_decide_eq_true vC) (Nat.le_trans (Nat.mul_le_mul_right _ (of_decide_eq_true vC : t582.toNat ≤ 17592186044416)) (by omega)) (Below.refl _ _) (Nat.le_refl _) ?_; intro v586 w19 ho20 hb hg_ hnew_; clear hg_ hnew_; (first | rw [← Ny585.out] at ho20 | (simp only [Int.reduceToNat] at ho20; rw [← Ny585.out] at ho20)); have HO587 := Aside0.mk (Kd.uN (Kd.vJ ho20 (Kd.R_lt (uT HO_6.out))) (uR uW)); replace HO_6 := Aside0.mk (Kd.vF (uT HO_6.out) (Kd.vK ho20) hb); replace HB := uH HB hb; clear hb ho20; obtain ⟨Ao21, co21, eo21⟩ := Kd.uS HO587.out; subst eo21; have p588 : 0 ≤ (t581 : Int) := of_decide_eq_true vC; have q588 : t581 < (y585.length : Int) := of_decide_eq_true vC; obtain ⟨ad588, e588, hx588_0⟩ := Kd.vS (Kd.uY HO587.out).2.2 t581 p588 q588; cases e588; replace p588 := eq_true p588; replace q588 := eq_true q588; have p18 : 0 ≤ (t581 : Int) := of_decide_eq_true vC; have q18 : (t581 : Int) < ((y585.length : Int) : Int) := of_decide_eq_true vC; obtain ⟨go18, co18, eo18, gb18, gl18, cl18, HG18⟩ := Kd.R_form HO587.out (by omega); (first | cases eo18 | (injection eo18 with ea_ en_ ec_; (first | subst ea_ | (injection ea_ with ea_; subst ea_)); subst ec_; clear en_)); have GB18 := Aside0.mk gb18; have GG18 := Aside0.mk HG18; clear gb18 gl18 HG18; (first | simp only [add_plain] at hx588_0 | skip); obtain ⟨hx18_0, hf18_0⟩ := Kd.R_celln (⟨#[]⟩ : ByteArray) HO587.out (t581 : Int) p18 q18; replace p18 := eq_true p18; replace q18 := eq_true q18; have n_ := Aside0.mk (Kd.uG (ok' := (fun k_ => some k_ ≠ (v579 : Value).ownBlock)) HO587.out (fun k_ hk => hk.2)); clear HO587; have HO587 := n_; clear n_; obtain ⟨hy22_, hz22_⟩ := Kd.R_celln (⟨#[]⟩ : ByteArray) HO587.out (t581 : Int) (of_decide_eq_true vC) (of_decide_eq_true vC); have HP22 := Kd.R_putg HO587.out (t581 : Int) a1) | ((with_reducible refine vU (t := 9) (p := 48) rfl ?_); refine vR (t := 9) (p := 48) (v := ?vo_w23) (w1 := (w19.setCell ⟨go18, (t581 : Int).toNat, none⟩ (.string a1))) ?hg ?ho ?hn ?hr ?_; (case ho => rfl); (case hg => rfl); (case hn => rfl); (case hr => first | (go_simp; done) | (go_simp; rfl)); intro w23 hw; have hg : w19.grownBy w23 (some go18) := (by rw [hw]; exact HP22.2); have hp_ : Kd.R Kd.string 9 w23 w.heap.size (fun k_ => some k_ ≠ (v579 : Value).ownBlock) (.slice (some ⟨go18, 0, none⟩) y585.length co21) y589 := (by rw [hw, Ny589.out]; exact HP22.1); clear HP22; replace HO_6 := Aside0.mk (Kd.R_after (v := (.slice (some ⟨go18, 0, none⟩) y585.length co21)) (v1 := (.slice (some ⟨go18, 0, none⟩) y585.length co21)) (ok := (fun _ => True)) (uT HO_6.out) hg (.inl rfl)); replace HO587 := Aside0.mk (hp_); replace HB := Aside0.mk ((by rw [hw]; exact below_set (HB.out) GB18.out : Below w.heap.size w w23)); clear hg hw hp_))
   go_ret2
   exact ⟨_, cq5, by (with_reducible repeat (first | apply Kd.uK | apply Kd.uJ | apply Kd.uO)); exact Kd.uG HO587.out (fun _ hk => trivial), uW⟩

/-! ### spec_DrawEncodeChunks: function 24 -/
def spec_DrawEncodeChunks.f (k : Nat) (l0 : List Int) : Option (ByteArray × Int) := (spec_l1New.f k l0).bind fun bt610 => ((spec_l7Snap.f k bt610.1 bt610.2.1 bt610.2.2).bind fun bt614 => ((spec_SnapshotText.f k bt614.1 bt614.2.1 bt614.2.2.1 bt614.2.2.2.1).bind fun t624 => ((spec_l1PickInt.f bt610.1 bt614.2.2.2.2.1 bt614.2.2.2.2.2 (([1, 2, 3, 5, 9, 40, 9223372036854775807, 0, (-1)] : List Int))).bind fun bt628 => (some (t624, bt628.1)))))
theorem spec_DrawEncodeChunks.mono : ∀ a0 k, uA (spec_DrawEncodeChunks.f k a0) (spec_DrawEncodeChunks.f (k + 1) a0) := by
 intro a0 k
 unfold spec_DrawEncodeChunks.f
 repeat' first
   | (with_reducible exact spec_SnapshotText.mono _ _ _ _ _)
   | (with_reducible exact spec_l1New.mono _ _)
   | (with_reducible exact spec_l7Snap.mono _ _ _ _)
   | (with_reducible exact uA.refl _)
   | (with_reducible exact uA.none _)
   | (with_reducible refine uA.vA ?_ ?_)
   | (with_reducible refine uA.bind ?_ (fun _ => ?_))
   | exact uA.none _
   | refine uA.vA ?_ ?_
   | refine uA.bind ?_ (fun _ => ?_)
set_option maxHeartbeats 8000000 in
set_option maxRecDepth 100000 in
theorem spec_DrawEncodeChunks.calls (k : Nat) (A0 : Option Addr) (c0 : Nat) (l0 : List Int) (r1 : ByteArray) (r2 : Int) (w : World) (hr0 : Kd.C (Kd.int .u8) w A0 l0.length l0) (hc0 : l0.length ≤ c0) (h : spec_DrawEncodeChunks.f k l0 = some (r1, r2)) :
  Calls Tryd.prog 24 #[.slice A0 l0.length c0] w fun e w' => e = .returned (.tuple #[.string r1, .int .i64 r2]) ∧ Below w.heap.size w w' := by
 have HR0 := Aside0.mk hr0
 have HC0 := Aside0.mk hc0
 clear hr0 hc0
 have HB := Aside0.mk (Below.refl w.heap.size w)
 have H : ((spec_l1New.f k l0).bind fun bt610 => ((spec_l7Snap.f k bt610.1 bt610.2.1 bt610.2.2).bind fun bt614 => ((spec_SnapshotText.f k bt614.1 bt614.2.1 bt614.2.2.1 bt614.2.2.2.1).bind fun t624 => ((spec_l1PickInt.f bt610.1 bt614.2.2.2.2.1 bt614.2.2.2.2.2 (([1, 2, 3, 5, 9, 40, 9223372036854775807, 0, (-1)] : List Int))).bind fun bt628 => (some (t624, bt628.1)))))) = some (r1, r2) := h
 clear h
 replace H := Option.bind_eq_some_iff.mp H
 obtain ⟨⟨t610, t611, t612⟩, A20, H⟩ := H
 try dsimp only at H
 have A2 := Aside0.mk A20
 clear A20
 replace H := Option.bind_eq_some_iff.mp H
 obtain ⟨⟨t614, t615, t616, t619, t622, t623⟩, A30, H⟩ := H
 try dsimp only at H
 have A3 := Aside0.mk A30
 clear A30
 replace H := Option.bind_eq_some_iff.mp H
 obtain ⟨t624, A40, H⟩ := H
 try dsimp only at H
 have A4 := Aside0.mk A40
 clear A40
 obtain ⟨y625, hy625⟩ : ∃ y_ : List Int, y_ = (([1, 2, 3, 5, 9, 40, 9223372036854775807, 0, (-1)] : List Int)) := ⟨_, rfl⟩
 replace H : ((spec_l1PickInt.f t610 t622 t623 y625).bind fun bt628 => (some (t624, bt628.1))) = some (r1, r2) := rpl hy625 H
 have Ny625 := Aside0.mk hy625
 clear hy625
 replace H := Option.bind_eq_some_iff.mp H
 obtain ⟨⟨t628, t629, t630⟩, A50, H⟩ := H
 try dsimp only at H
 have A5 := Aside0.mk A50
 clear A50
 simp only [Option.some.injEq, Prod.mk.injEq] at H
 obtain ⟨rfl, rfl⟩ := H
 go_enter Tryd.func24, Tryd.ntmps24
 go_wp2_with (first | ((with_reducible refine uB (f := 50) rfl ?_); refine uL (some 6) Tryd.func50 #[.slice A0 l0.length c0] ?_; (with_reducible refine (spec_l1New.calls k _ _ l0 t610 t611 t612 w _ ?side1 ?side2 ?side3 A2.out).mono ?_); (case side1 => exact uW); (case side2 => exact HR0.out); (case side3 => exact HC0.out); rintro e w6 ⟨g613, rfl, hi, hb, hb2⟩; refine ⟨_, rfl, ?_⟩; have HI613 := Aside0.mk (hi); replace HB := Aside0.mk (hb); (try clear hb); (try clear hb2); (try clear hi)) | ((with_reducible refine uB (f := 62) rfl ?_); refine uL (some 8) Tryd.func62 #[.pointer (some ⟨g613, 0, none⟩)] ?_; (with_reducible refine (spec_l7Snap.calls k g613 t610 t611 t612 t614 t615 t616 t619 t622 t623 w _ ?side1 ?side2 A3.out).mono ?_); (case side1 => exact cq49); (case side2 => exact cq34); rintro e w7 ⟨v617, v620, rfl, ho0, ho1, hi, hb, hk⟩; refine ⟨_, rfl, ?_⟩; have HO618 := Aside0.mk (Kd.Q_lower ho0 (uR cq34)); have HO621 := Aside0.mk (Kd.uN ho1 (uR cq34)); replace HB := Aside0.mk (hb); replace HI613 := Aside0.mk (hi); (try clear hb); (try clear hk); (try clear hi); (try clear ho0); (try clear ho1); obtain ⟨Ao8, co8, eo8, _⟩ := Kd.Q_slice HO618.out; subst eo8; obtain ⟨Ao9, co9, eo9⟩ := Kd.uS HO621.out; subst eo9) | ((with_reducible refine uB (f := 61) rfl ?_); refine uL (some 9) Tryd.func61 #[.agg #[.int .i64 t614, .int .i64 t615, .slice Ao8 t616.length co8, .slice Ao9 t619.length co9]] ?_; (with_reducible refine (spec_SnapshotText.calls k t614 t615 _ _ t616 _ _ t619 t624 _ ?side1 ?side2 ?side3 ?side4 A4.out).mono ?_); (case side1 => repeat (first | exact (Kd.Q_reads' HO618.out).2.2 | (with_reducible refine Kd.C_alloc ?_ _) | (with_reducible refine Kd.C_drewN ?_ _) | (with_reducible refine Kd.C_drew ?_))); (case side2 => exact (Kd.Q_reads' HO618.out).2.1); (case side3 => repeat (first | exact (Kd.uY HO621.out).2.2 | (with_reducible refine Kd.C_alloc ?_ _) | (with_reducible refine Kd.C_drewN ?_ _) | (with_reducible refine Kd.C_drew ?_))); (case side4 => exact (Kd.uY HO621.out).2.1); rintro e w10 ⟨rfl, hb⟩; refine ⟨_, rfl, ?_⟩; replace HO618 := Kd.tQ HO618 hb; replace HO621 := Kd.tR HO621 hb; replace HI613 := Aside0.mk (IsS110.below cq49 hb); replace HB := tBel2 HB hb; (try clear hb)) | ((with_reducible refine uQ (N := 11) rfl ?_); refine Kd.R_lit (Kd.int .i64) _ 3 ?hg (N := 11) ?hd (xs := ([1, 2, 3, 5, 9, 40, 9223372036854775807, 0, (-1)] : List Int)) (inner := [.int .i64 1, .int .i64 2, .int .i64 3, .int .i64 5, .int .i64 9, .int .i64 40, .int .i64 9223372036854775807, .int .i64 0, .int .i64 (-1)]) (ok := fun _ => True) (okp := fun _ => True) ?hr ?hp (fun _ hk => hk) trivial (Below.refl _ _) (Nat.le_refl _) (by simp) ?_; (case hd => rfl); (case hg => rfl); (case hr => first | (go_simp; done) | (go_simp; rfl)); (case hp => exact (Reps.one (show Kd.M (Kd.int .i64) _ _ _ 1 [.int .i64 1] from rfl) (Reps.one (show Kd.M (Kd.int .i64) _ _ _ 2 [.int .i64 2] from rfl) (Reps.one (show Kd.M (Kd.int .i64) _ _ _ 3 [.int .i64 3] from rfl) (Reps.one (show Kd.M (Kd.int .i64) _ _ _ 5 [.int .i64 5] from rfl) (Reps.one (show Kd.M (Kd.int .i64) _ _ _ 9 [.int .i64 9] from rfl) (Reps.one (show Kd.M (Kd.int .i64) _ _ _ 40 [.int .i64 40] from rfl) (Reps.one (show Kd.M (Kd.int .i64) _ _ _ 9223372036854775807 [.int .i64 9223372036854775807] from rfl) (Reps.one (show Kd.M (Kd.int .i64) _ _ _ 0 [.int .i64 0] from rfl) (Reps.one (show Kd.M (Kd.int .i64) _ _ _ (-1) [.int .i64 (-1)] from rfl) (Reps.none _ _))))))))))); intro v626 w11 ho12 hb hg_ hnew_; clear hg_ hnew_; (first | rw [← Ny625.out] at ho12 | (simp only [Int.reduceToNat] at ho12; rw [← Ny625.out] at ho12)); have HO627 := Aside0.mk (Kd.uN (Kd.vJ ho12 (Kd.Q_lt (rSQ HO618.out))) (uR cq34)); replace HO618 := Aside0.mk (Kd.Q_elder' (rSQ HO618.out) (Kd.vK ho12) hb); replace HO621 := Kd.tR HO621 hb; replace HI613 := Aside0.mk (IsS110.below cq49 hb); replace HB := tBel2 HB hb; clear hb ho12; obtain ⟨Ao13, co13, eo13⟩ := Kd.uS HO627.out; subst eo13) | ((with_reducible refine uB (f := 54) rfl ?_); refine uL (some 12) Tryd.func54 #[.pointer (some ⟨g613, 0, none⟩), .slice Ao13 y625.length co13] ?_; (with_reducible refine (spec_l1PickInt.calls g613 t610 t622 t623 _ _ y625 t628 t629 t630 w _ ?side1 ?side2 ?side3 ?side4 ?side5 A5.out).mono ?_); (case side1 => exact cq49); (case side2 => exact cq34); (case side3 => repeat (first | exact (Kd.uY HO627.out).2.2 | (with_reducible refine Kd.C_alloc ?_ _) | (with_reducible refine Kd.C_drewN ?_ _) | (with_reducible refine Kd.C_drew ?_))); (case side4 => exact (Kd.uY HO627.out).2.1); (case side5 => exact far_slice (IsS110.own_ne HI613.out HO627.out (by decide))); rintro e w14 ⟨rfl, hi, hb, hk⟩; refine ⟨_, rfl, ?_⟩; replace HO618 := Aside0.mk (Kd.Q_mono (Kd.Q_keep (IsS110.apartQ (show IsS110 w _ g613 t610 t622 t623 from by repeat (first | (with_reducible first | exact HI613.out | apply IsS110.alloc | apply IsS110.drewN | apply IsS110.drew | apply IsS110.set_1 | apply IsS110.set_2) | exact HI613.out)) (rSQ HO618.out) (by decide)) hk (fun _ h => h.2)) (fun _ h => h.1)); replace HO621 := Aside0.mk (Kd.uG (Kd.vB (IsS110.apart (show IsS110 w _ g613 t610 t622 t623 from by repeat (first | (with_reducible first | exact HI613.out | apply IsS110.alloc | apply IsS110.drewN | apply IsS110.drew | apply IsS110.set_1 | apply IsS110.set_2) | exact HI613.out)) (uT HO621.out) (by decide)) hk (fun _ h => h.2)) (fun _ h => h.1)); replace HO627 := Aside0.mk (Kd.uG (Kd.vB (IsS110.apart (show IsS110 w _ g613 t610 t622 t623 from by repeat (first | (with_reducible first | exact HI613.out | apply IsS110.alloc | apply IsS110.drewN | apply IsS110.drew | apply IsS110.set_1 | apply IsS110.set_2) | exact HI613.out)) (uT HO627.out) (by decide)) hk (fun _ h => h.2)) (fun _ h => h.1)); replace HB := Aside0.mk (hb); replace HI613 := Aside0.mk (hi); (try clear hb); (try clear hk); (try clear hi)))
 go_ret2
 exact ⟨cq5, cq34⟩

/-! ### impl_EncodeChunks: function 25 -/
mutual
def impl_EncodeChunks.j0 : Nat → ByteArray → Int → List ByteArray → Bool → Option (List ByteArray)
 | 0, _, _, _, _ => none
 | k + 1, x0, x1, x5, x17 => if x17 = true then (some x5) else (if x1 = 0 then (none) else (if (mx 1 (wrap64 ((wrap64 (Int.tdiv (wrap64 ((x0.size : Int) - 1)) x1)) + 1))) > 40 then (some x5) else (impl_EncodeChunks.l0 k x0 x1 x5 (mx 1 (wrap64 ((wrap64 (Int.tdiv (wrap64 ((x0.size : Int) - 1)) x1)) + 1))) (mx 1 (wrap64 ((wrap64 (Int.tdiv (wrap64 ((x0.size : Int) - 1)) x1)) + 1))) 0)))
def impl_EncodeChunks.l0 : Nat → ByteArray → Int → List ByteArray → Int → Int → Int → Option (List ByteArray)
 | 0, _, _, _, _, _, _ => none
 | k + 1, x0, x1, x5, x6, x29, x30 => if x30 < x29 then (if 0 ≤ (wrap64 (x30 * x1)) then (if (wrap64 (x30 * x1)) ≤ (mn (x0.size : Int) (wrap64 ((wrap64 (x30 * x1)) + (mn x1 (x0.size : Int))))) then (if (mn (x0.size : Int) (wrap64 ((wrap64 (x30 * x1)) + (mn x1 (x0.size : Int))))) ≤ (x0.size : Int) then ((impl_chunkText.f k x30 x6 (x0.extract ((wrap64 (x30 * x1)) : Int).toNat ((mn (x0.size : Int) (wrap64 ((wrap64 (x30 * x1)) + (mn x1 (x0.size : Int))))) : Int).toNat)).bind fun t634 => (if x5.length < 8796093022208 then (impl_EncodeChunks.l0 k x0 x1 (x5 ++ [t634]) x6 x29 (wrap64 (x30 + 1))) else (none))) else (none)) else (none)) else (none)) else (some x5)
end
def impl_EncodeChunks.f (k : Nat) (a0 : ByteArray) (a1 : Int) : Option (List ByteArray) := (some (([] : List ByteArray) : List ByteArray)).bind fun y631 => (if a1 < 1 then (impl_EncodeChunks.j0 k a0 a1 y631 true) else (if a1 = 0 then (none) else (impl_EncodeChunks.j0 k a0 a1 y631 (decide ((wrap64 ((a0.size : Int) / a1)) > 40)))))
theorem impl_EncodeChunks.mono_l : ∀ k, (∀ y0 y1 y2 y3, uA (impl_EncodeChunks.j0 k y0 y1 y2 y3) (impl_EncodeChunks.j0 (k + 1) y0 y1 y2 y3)) ∧ (∀ y0 y1 y2 y3 y4 y5, uA (impl_EncodeChunks.l0 k y0 y1 y2 y3 y4 y5) (impl_EncodeChunks.l0 (k + 1) y0 y1 y2 y3 y4 y5))
 | 0 => ⟨fun _ _ _ _ r h => by simp [impl_EncodeChunks.j0] at h, fun _ _ _ _ _ _ r h => by simp [impl_EncodeChunks.l0] at h⟩
 | k + 1 => by
  obtain ⟨ih0, ih1⟩ := impl_EncodeChunks.mono_l k
  refine ⟨?_, ?_⟩
  ·intro y0 y1 y2 y3
   unfold impl_EncodeChunks.j0
   repeat' first
   | (with_reducible exact ih0 _ _ _ _)
   | (with_reducible exact ih1 _ _ _ _ _ _)
   | (with_reducible exact impl_chunkText.mono _ _ _ _)
   | (with_reducible exact uA.refl _)
   | (with_reducible exact uA.none _)
   | (with_reducible refine uA.vA ?_ ?_)
   | (with_reducible refine uA.bind ?_ (fun _ => ?_))
   | exact ih0 _ _ _ _
   | exact ih1 _ _ _ _ _ _
   | exact uA.none _
   | refine uA.vA ?_ ?_
   | refine uA.bind ?_ (fun _ => ?_)
  intro y0 y1 y2 y3 y4 y5
  unfold impl_EncodeChunks.l0
  repeat' first
  | (with_reducible exact ih0 _ _ _ _)
  | (with_reducible exact ih1 _ _ _ _ _ _)
  | (with_reducible exact impl_chunkText.mono _ _ _ _)
  | (with_reducible exact uA.refl _)
  | (with_reducible exact uA.none _)
  | (with_reducible refine uA.vA ?_ ?_)
  | (with_reducible refine uA.bind ?_ (fun _ => ?_))
  | exact ih0 _ _ _ _
  | exact ih1 _ _ _ _ _ _
  | exact uA.none _
  | refine uA.vA ?_ ?_
  | refine uA.bind ?_ (fun _ => ?_)
theorem impl_EncodeChunks.mono : ∀ a0 a1 k, uA (impl_EncodeChunks.f k a0 a1) (impl_EncodeChunks.f (k + 1) a0 a1) := by
 intro a0 a1 k
 obtain ⟨ih0, ih1⟩ := impl_EncodeChunks.mono_l k
 unfold impl_EncodeChunks.f
 repeat' first
   | (with_reducible exact ih0 _ _ _ _)
   | (with_reducible exact ih1 _ _ _ _ _ _)
   | (with_reducible exact impl_chunkText.mono _ _ _ _)
   | (with_reducible exact uA.refl _)
   | (with_reducible exact uA.none _)
   | (with_reducible refine uA.vA ?_ ?_)
   | (with_reducible refine uA.bind ?_ (fun _ => ?_))
   | exact ih0 _ _ _ _
   | exact ih1 _ _ _ _ _ _
   | exact uA.none _
   | refine uA.vA ?_ ?_
   | refine uA.bind ?_ (fun _ => ?_)
set_option maxHeartbeats 8000000 in
set_option maxRecDepth 100000 in
theorem impl_EncodeChunks.calls (k : Nat) (a0 : ByteArray) (a1 : Int) (r : List ByteArray) (w : World) (hWF : WF w) (h : impl_EncodeChunks.f k a0 a1 = some r) :
  Calls Tryd.prog 25 #[.string a0, .int .i64 a1] w fun e w' => ∃ v0_ : Value, e = .returned (v0_) ∧ Kd.R Kd.string 9 w' w.heap.size (fun _ => True) v0_ r ∧ Below w.heap.size w w' := by
 have HB := Aside0.mk (Below.refl w.heap.size w)
 have H : ((some (([] : List ByteArray) : List ByteArray)).bind fun y631 => (if a1 < 1 then (impl_EncodeChunks.j0 k a0 a1 y631 true) else (if a1 = 0 then (none) else (impl_EncodeChunks.j0 k a0 a1 y631 (decide ((wrap64 ((a0.size : Int) / a1)) > 40)))))) = some r := h
 clear h
 obtain ⟨y631, hy631⟩ : ∃ y_ : List ByteArray, y_ = (([] : List ByteArray)) := ⟨_, rfl⟩
 replace H : (if a1 < 1 then (impl_EncodeChunks.j0 k a0 a1 y631 true) else (if a1 = 0 then (none) else (impl_EncodeChunks.j0 k a0 a1 y631 (decide ((wrap64 ((a0.size : Int) / a1)) > 40))))) = some r := rpl hy631 H
 have Ny631 := Aside0.mk hy631
 clear hy631
 have HC3 := Aside0.mk H
 clear H
 go_enter Tryd.func25, Tryd.ntmps25
 go_upto_region 2 with (first | ((with_reducible refine uQ (N := 8) rfl ?_); refine Kd.R_lit Kd.string _ 9 ?hg (N := 8) ?hd (xs := ([] : List ByteArray)) (inner := []) (ok := fun _ => True) (okp := fun _ => True) ?hr ?hp (fun _ hk => hk) trivial (Below.refl _ _) (Nat.le_refl _) (by simp) ?_; (case hd => rfl); (case hg => rfl); (case hr => first | (go_simp; done) | (go_simp; rfl)); (case hp => exact (Reps.none _ _)); intro v632 w4 ho5 hb hg_ hnew_; clear hg_ hnew_; (first | rw [← Ny631.out] at ho5 | (simp only [Int.reduceToNat] at ho5; rw [← Ny631.out] at ho5)); have HO633 := Aside0.mk (Kd.uN ho5 (uR uW)); replace HB := uH HB hb; clear hb ho5))
 (try simp only [Act.put, vZ, yA, yB])
 go_cut [17] (fun v17 wc => ∃ (kq : Nat) (x17_2 : Bool), v17 = .bool x17_2 ∧ Aside0 (impl_EncodeChunks.j0 kq a0 a1 y631 x17_2 = some r) ∧ Aside0 (kq ≤ k) ∧ Aside0 (Kd.R Kd.string 9 wc w.heap.size (fun _ => True) v632 y631) ∧ Aside0 (Below w.heap.size w wc))
 case first =>
  have H := HC3.out
  clear HC3
  by_cases c6 : a1 < 1
  ·rw [if_pos c6] at H
   have c6b0 := decide_eq_true c6
   clear c6
   (first | rw [c6b0] | (simp only [vM, vO]; rw [c6b0]) | skip)
   have H' := Aside0.mk H
   clear H
   go_wp2
   go_meet
   case rel => exact ⟨_, (true), vD, H', ⟨by first | omega | exact Nat.le_refl _⟩, ⟨by (with_reducible repeat (first | apply Kd.uK | apply Kd.uJ | apply Kd.uO)); exact HO633.out⟩, ⟨uW⟩⟩
  rw [if_neg c6] at H
  have c6b0 := decide_eq_false c6
  clear c6
  (first | rw [c6b0] | (simp only [vM, vO]; rw [c6b0]) | skip)
  by_cases c7 : a1 = 0
  ·rw [if_pos c7] at H
   exact absurd H (by simp)
  rw [if_neg c7] at H
  have c7b0 := beq_eq_false_iff_ne.mpr c7
  have c7b1 := bne_iff_ne.mpr c7
  have H' := Aside0.mk H
  clear H
  go_wp2
  go_meet
  case rel => exact ⟨_, (decide ((wrap64 ((a0.size : Int) / a1)) > 40)), vD, H', ⟨by first | omega | exact Nat.le_refl _⟩, ⟨by (with_reducible repeat (first | apply Kd.uK | apply Kd.uJ | apply Kd.uO)); exact HO633.out⟩, ⟨uW⟩⟩
 case rest =>
  clear HC3
  obtain ⟨kq, x17_2, rfl, HA, HJ2, HO_5, HB⟩ := hcut
  cases kq with
  | zero => exact absurd HA.out (by simp [impl_EncodeChunks.j0])
  | succ kj2 =>
   have H := HA.out
   clear HA
   simp only [impl_EncodeChunks.j0] at H
   by_cases c8 : x17_2 = true
   ·subst c8
    try rw [if_pos rfl] at H
    obtain rfl := Option.some.inj H
    go_wp2
    go_ret
    exact ⟨_, cq5, cq27, uW⟩
   replace c8 := Bool.eq_false_iff.mpr c8
   subst c8
   try rw [if_neg (show ¬ (false = true) by decide)] at H
   by_cases c9 : a1 = 0
   ·rw [if_pos c9] at H
    exact absurd H (by simp)
   rw [if_neg c9] at H
   have c9b0 := beq_eq_false_iff_ne.mpr c9
   have c9b1 := bne_iff_ne.mpr c9
   obtain ⟨ji10, hji10⟩ : ∃ j_ : Int, (mx 1 (wrap64 ((wrap64 (Int.tdiv (wrap64 ((a0.size : Int) - 1)) a1)) + 1))) = j_ := ⟨_, rfl⟩
   replace H : (if (ji10) > 40 then (some y631) else (impl_EncodeChunks.l0 kj2 a0 a1 y631 ji10 ji10 0)) = some r := by first | (rw [hji10] at H; exact H) | (simp only [hji10] at H ⊢; exact H) | rfl
   have hji10_ : (if 1 < (wrap64 ((wrap64 (Int.tdiv (wrap64 ((a0.size : Int) - 1)) a1)) + 1)) then (wrap64 ((wrap64 (Int.tdiv (wrap64 ((a0.size : Int) - 1)) a1)) + 1)) else 1) = ji10 := hji10
   by_cases c11 : (ji10) > 40
   ·rw [if_pos c11] at H
    have c11b0 := decide_eq_true c11
    clear c11
    obtain rfl := Option.some.inj H
    go_wp2
    go_ret
    exact ⟨_, by first | rfl | (simp [errW_none, errW_some] <;> rfl) | (simp only [← hji10]; first | rfl | (simp [errW_none, errW_some] <;> rfl)) | (simp [*, errW_none, errW_some] <;> rfl), cq27, uW⟩
   rw [if_neg c11] at H
   have c11b0 := decide_eq_false c11
   clear c11
   have H' := Aside0.mk H
   clear H
   go_wp2
   go_loopg [5, 30] kj2 (fun kq v5 v30 w' => ∃ (x5_2 : List ByteArray) (x30_2 : Int), v30 = .int .i64 x30_2 ∧ Aside0 (impl_EncodeChunks.l0 kq a0 a1 x5_2 ji10 ji10 x30_2 = some r) ∧ Aside0 (kq ≤ kj2) ∧ Aside0 (Kd.R Kd.string 9 w' w.heap.size (fun _ => True) v5 x5_2) ∧ Aside0 (Below w.heap.size w w'))
   case atStart => exact ⟨(y631), (0), vD, H', ⟨Nat.le_refl _⟩, ⟨cq27⟩, ⟨uW⟩⟩
   case round =>
    clear H'
    try clear c8
    try clear c9
    try clear c9b0
    try clear c9b1
    try clear c11
    try clear c11b0
    obtain ⟨x5_2, x30_2, rfl, HA, HK2, HO_5, HB⟩ := hrel
    cases gk with
    | zero => exact absurd HA.out (by simp [impl_EncodeChunks.l0])
    | succ k2 =>
     have H := HA.out
     clear HA
     simp only [impl_EncodeChunks.l0] at H
     by_cases c12 : x30_2 < ji10
     rotate_left
     ·rw [if_neg c12] at H
      have c12b0 := decide_eq_false c12
      clear c12
      obtain rfl := Option.some.inj H
      go_wp2
      go_ret
      exact ⟨_, by first | rfl | (simp [errW_none, errW_some] <;> rfl) | (simp only [← hji10]; first | rfl | (simp [errW_none, errW_some] <;> rfl)) | (simp [*, errW_none, errW_some] <;> rfl), cq27, uW⟩
     rw [if_pos c12] at H
     have c12b0 := decide_eq_true c12
     clear c12
     obtain ⟨ji13, hji13⟩ : ∃ j_ : Int, (mn a1 (a0.size : Int)) = j_ := ⟨_, rfl⟩
     replace H : (if 0 ≤ (wrap64 (x30_2 * a1)) then (if (wrap64 (x30_2 * a1)) ≤ (mn (a0.size : Int) (wrap64 ((wrap64 (x30_2 * a1)) + (ji13)))) then (if (mn (a0.size : Int) (wrap64 ((wrap64 (x30_2 * a1)) + (ji13)))) ≤ (a0.size : Int) then ((impl_chunkText.f k2 x30_2 ji10 (a0.extract ((wrap64 (x30_2 * a1)) : Int).toNat ((mn (a0.size : Int) (wrap64 ((wrap64 (x30_2 * a1)) + (ji13)))) : Int).toNat)).bind fun t634 => (if x5_2.length < 8796093022208 then (impl_EncodeChunks.l0 k2 a0 a1 (x5_2 ++ [t634]) ji10 ji10 (wrap64 (x30_2 + 1))) else (none))) else (none)) else (none)) else (none)) = some r := by first | (rw [hji13] at H; exact H) | (simp only [hji13] at H ⊢; exact H) | rfl
     have hji13_ : (if (a0.size : Int) < a1 then (a0.size : Int) else a1) = ji13 := hji13
     obtain ⟨ji14, hji14⟩ : ∃ j_ : Int, (mn (a0.size : Int) (wrap64 ((wrap64 (x30_2 * a1)) + (ji13)))) = j_ := ⟨_, rfl⟩
     replace H : (if 0 ≤ (wrap64 (x30_2 * a1)) then (if (wrap64 (x30_2 * a1)) ≤ (ji14) then (if (ji14) ≤ (a0.size : Int) then ((impl_chunkText.f k2 x30_2 ji10 (a0.extract ((wrap64 (x30_2 * a1)) : Int).toNat ((ji14) : Int).toNat)).bind fun t634 => (if x5_2.length < 8796093022208 then (impl_EncodeChunks.l0 k2 a0 a1 (x5_2 ++ [t634]) ji10 ji10 (wrap64 (x30_2 + 1))) else (none))) else (none)) else (none)) else (none)) = some r := by first | (rw [hji14] at H; exact H) | (simp only [hji14] at H ⊢; exact H) | rfl
     have hji14_ : (if (wrap64 ((wrap64 (x30_2 * a1)) + (ji13))) < (a0.size : Int) then (wrap64 ((wrap64 (x30_2 * a1)) + (ji13))) else (a0.size : Int)) = ji14 := hji14
     obtain ⟨ji15, hji15⟩ : ∃ j_ : Int, (wrap64 (x30_2 * a1)) = j_ := ⟨_, rfl⟩
     replace H : (if 0 ≤ (ji15) then (if (ji15) ≤ (ji14) then (if (ji14) ≤ (a0.size : Int) then ((impl_chunkText.f k2 x30_2 ji10 (a0.extract ((ji15) : Int).toNat ((ji14) : Int).toNat)).bind fun t634 => (if x5_2.length < 8796093022208 then (impl_EncodeChunks.l0 k2 a0 a1 (x5_2 ++ [t634]) ji10 ji10 (wrap64 (x30_2 + 1))) else (none))) else (none)) else (none)) else (none)) = some r := by first | (rw [hji15] at H; exact H) | (simp only [hji15] at H ⊢; exact H) | rfl
     (try rw [hji15] at hji14_)
     (try rw [hji15] at hji14)
     have hji15w : (IntKind.i64.wrap (x30_2 * a1)) = ji15 := (vM _).trans hji15
     by_cases c16 : 0 ≤ (ji15)
     rotate_left
     ·rw [if_neg c16] at H
      exact absurd H (by simp)
     rw [if_pos c16] at H
     have c16b0 := eq_true c16
     have c16b1 := decide_eq_true c16
     clear c16
     by_cases c17 : (ji15) ≤ (ji14)
     rotate_left
     ·rw [if_neg c17] at H
      exact absurd H (by simp)
     rw [if_pos c17] at H
     have c17b0 := eq_true c17
     have c17b1 := decide_eq_true c17
     clear c17
     by_cases c18 : (ji14) ≤ (a0.size : Int)
     rotate_left
     ·rw [if_neg c18] at H
      exact absurd H (by simp)
     rw [if_pos c18] at H
     have c18b0 := eq_true c18
     have c18b1 := decide_eq_true c18
     clear c18
     replace H := Option.bind_eq_some_iff.mp H
     obtain ⟨t634, A190, H⟩ := H
     try dsimp only at H
     have A19 := Aside0.mk A190
     clear A190
     obtain ⟨LMc20, H⟩ := ifL H
     obtain ⟨y635, hy635⟩ : ∃ y_ : List ByteArray, y_ = (x5_2 ++ [t634]) := ⟨_, rfl⟩
     replace H : (impl_EncodeChunks.l0 k2 a0 a1 y635 ji10 ji10 (wrap64 (x30_2 + 1))) = some r := rpl hy635 H
     have Ny635 := Aside0.mk hy635
     clear hy635
     have H' := Aside0.mk H
     clear H
     go_wp2_with (first | ((with_reducible refine uB (f := 63) rfl ?_); refine goesL_ (some 52) rfl rfl Tryd.func63 (by kernel_rfl) rfl #[.int .i64 x30_2, .int .i64 ji10, .string (a0.extract ((ji15) : Int).toNat ((ji14) : Int).toNat)] rfl (by (try simp only [List.map_toArray, List.map_cons, List.map_nil]); first | done | (simp only [hji10, hji14, hji15]; rfl) | rfl | (simp only [List.length_drop, List.length_take]; rfl)) ?_; (with_reducible refine (impl_chunkText.calls k2 x30_2 ji10 (a0.extract ((ji15) : Int).toNat ((ji14) : Int).toNat) t634 _ ?side1 A19.out).mono ?_); (case side1 => exact cq7); rintro e w21 ⟨rfl, hb⟩; refine ⟨_, rfl, ?_⟩; replace HO_5 := Kd.tR HO_5 hb; replace HB := uH HB hb; (try clear hb)) | ((with_reducible refine gate_builtin (b := .append) (xs := #[.tmp 33, .tmp 53]) rfl ?_); at_builtin; refine Kd.R_append Kd.string (w0 := w) w.heap.size rfl (.tmp 33) (.tmp 53) 37 9 (.string ⟨#[]⟩) 16 rfl Tryd.underlying37 info9 rfl (by decide) (by omega) u5 x5_2 t634 [.string t634] (fun _ => True) (fun _ => False) rfl rfl ?aP (fun _ hk => hk.elim) ?aF ?aO ?aB ?aS ?aL ?_; (case aP => exact rfl); (case aB => exact cq36); (case aF => exact (fun _ _ => trivial)); (case aO => exact (uT HO_5.out)); (case aS => exact cq30); (case aL => have := LMc20.out; omega); intro v636 w22 ho hb hg hat; rw [← Ny635.out] at ho; have n0_ := Aside0.mk (hb); have n1_ := Aside0.mk (ho); clear HB; clear HO_5; have HB := n0_; have HO637 := n1_; clear n0_ n1_; clear ho hb hg hat))
     go_roundg k2
     case measure => have := HJ2.out; have := HK2.out; omega
     case rel => exact ⟨(y635), (wrap64 (x30_2 + 1)), vD, H', ⟨by have := HJ2.out; have := HK2.out; omega⟩, ⟨by (with_reducible repeat (first | apply Kd.uK | apply Kd.uJ | apply Kd.uO)); exact HO637.out⟩, ⟨uW⟩⟩

end Go.Proofs.YtcikahnmiiichaaDoor.K
