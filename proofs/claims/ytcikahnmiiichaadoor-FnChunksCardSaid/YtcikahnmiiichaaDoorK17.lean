/- Go functions as Lean functions, and the proof that the code comes to them: written by a program of this session out of the translation. -/
import Derived.Test.YtcikahnmiiichaaDoorK0
import Derived.Test.YtcikahnmiiichaaDoorK1
import Derived.Test.YtcikahnmiiichaaDoorK16
namespace Go.Proofs.YtcikahnmiiichaaDoor.K
open List renaming setIfInBounds_toArray → vZ, set_cons_zero → yA, set_cons_succ → yB
open Go.World renaming block_lt_of_cell? → yF
open Go.Proofs.YtcikahnmiiichaaDoor.Given
open Go.RowKit Go.Proofs.YtcikahnmiiichaaDoorW.PrintWords Go.Proofs.YtcikahnmiiichaaDoorW.PrintLast Go.Proofs.YtcikahnmiiichaaDoorW.PrintMore
attribute [local go_sem] max2_int min2_int max_two min_two vW vV max_four min_four   -- for this text's walks alone
set_option linter.unusedVariables false
set_option linter.unusedSimpArgs false

/-! ### spec_l1Spoil: function 57 -/
def spec_l1Spoil.f (k : Nat) (s0_0 : List Int) (s0_1 : Int) (s0_2 : Int) (a1 : ByteArray) : Option (ByteArray × Int × Int) := if (a1.size : Int) = 0 then ((spec_l1Text.f k s0_0 s0_1 s0_2 3).bind fun bt509 => (some (bt509.1, bt509.2.1, bt509.2.2))) else ((spec_l1Below.f s0_0 s0_1 s0_2 (a1.size : Int)).bind fun bt512 => ((spec_l1Below.f s0_0 bt512.2.1 bt512.2.2 4).bind fun bt515 => (if bt515.1 = 0 then (if 0 ≤ bt512.1 then (if bt512.1 ≤ (a1.size : Int) then (if 0 ≤ (wrap64 (bt512.1 + 1)) then (if (wrap64 (bt512.1 + 1)) ≤ (a1.size : Int) then (if (a1.extract 0 (bt512.1 : Int).toNat).size + (a1.extract ((wrap64 (bt512.1 + 1)) : Int).toNat a1.size).size ≤ 9223372036854775807 then (some ((a1.extract 0 (bt512.1 : Int).toNat) ++ (a1.extract ((wrap64 (bt512.1 + 1)) : Int).toNat a1.size), bt515.2.1, bt515.2.2)) else (none)) else (none)) else (none)) else (none)) else (none)) else (if bt515.1 = 1 then (if 0 ≤ bt512.1 then (if bt512.1 ≤ (a1.size : Int) then ((spec_l1Byte.f s0_0 bt515.2.1 bt515.2.2).bind fun bt518 => ((some (([(bt518.1) % 256] : List Int) : List Int)).bind fun y521 => (if (a1.extract 0 (bt512.1 : Int).toNat).size + (strOfNums y521).size ≤ 9223372036854775807 then (if ((a1.extract 0 (bt512.1 : Int).toNat) ++ (strOfNums y521)).size + (a1.extract (bt512.1 : Int).toNat a1.size).size ≤ 9223372036854775807 then (some (((a1.extract 0 (bt512.1 : Int).toNat) ++ (strOfNums y521)) ++ (a1.extract (bt512.1 : Int).toNat a1.size), bt518.2.1, bt518.2.2)) else (none)) else (none)))) else (none)) else (none)) else (if bt515.1 = 2 then (if 0 ≤ bt512.1 then (if bt512.1 ≤ (a1.size : Int) then (some (a1.extract 0 (bt512.1 : Int).toNat, bt515.2.1, bt515.2.2)) else (none)) else (none)) else (if 0 ≤ bt512.1 then (if bt512.1 ≤ (a1.size : Int) then (if bt512.1 < (a1.size : Int) then ((spec_l1Below.f s0_0 bt515.2.1 bt515.2.2 255).bind fun bt524 => ((some (([(Go.bits .xor .i64 (wrap64 (bt a1 bt512.1)) (wrap64 (1 + bt524.1))) % 256] : List Int) : List Int)).bind fun y527 => (if (a1.extract 0 (bt512.1 : Int).toNat).size + (strOfNums y527).size ≤ 9223372036854775807 then (if 0 ≤ (wrap64 (bt512.1 + 1)) then (if (wrap64 (bt512.1 + 1)) ≤ (a1.size : Int) then (if ((a1.extract 0 (bt512.1 : Int).toNat) ++ (strOfNums y527)).size + (a1.extract ((wrap64 (bt512.1 + 1)) : Int).toNat a1.size).size ≤ 9223372036854775807 then (some (((a1.extract 0 (bt512.1 : Int).toNat) ++ (strOfNums y527)) ++ (a1.extract ((wrap64 (bt512.1 + 1)) : Int).toNat a1.size), bt524.2.1, bt524.2.2)) else (none)) else (none)) else (none)) else (none)))) else (none)) else (none)) else (none)))))))
theorem spec_l1Spoil.mono : ∀ a0 a1 a2 a3 k, uA (spec_l1Spoil.f k a0 a1 a2 a3) (spec_l1Spoil.f (k + 1) a0 a1 a2 a3) := by
 intro a0 a1 a2 a3 k
 unfold spec_l1Spoil.f
 repeat' first
   | (with_reducible exact spec_l1Text.mono _ _ _ _ _)
   | (with_reducible exact uA.refl _)
   | (with_reducible exact uA.none _)
   | (with_reducible refine uA.vA ?_ ?_)
   | (with_reducible refine uA.bind ?_ (fun _ => ?_))
   | exact uA.none _
   | refine uA.vA ?_ ?_
   | refine uA.bind ?_ (fun _ => ?_)
def spec_l1Spoil.T6 : Bool × List (List Nat × List Nat) := (true, [([], []), ([], []), ([0, 1], [0, 1]), ([], []), ([], []), ([4], [4]), ([3, 5], [3, 5]), ([2, 6], [2, 6]), ([7, 0, 1, 2, 3, 4, 5, 6, 7], [7])])
def spec_l1Spoil.B6 : List Nat := [0, 0, 3, 0, 0, 16, 56, 127, 255]
theorem spec_l1Spoil.tab6 : rtab .any (opsOf Tryd.f57 6) = spec_l1Spoil.T6 := by kernel_rfl
theorem spec_l1Spoil.bits6 : waitsOk spec_l1Spoil.T6.2 spec_l1Spoil.B6 = true := by kernel_rfl
def spec_l1Spoil.T8 : Bool × List (List Nat × List Nat) := (true, [([], []), ([], []), ([0, 1], [0, 1]), ([], []), ([3], [3]), ([4], [4]), ([5], [5]), ([6], [6]), ([2, 7], [2, 7]), ([], []), ([], []), ([9, 10], [9, 10]), ([8, 11], [8, 11]), ([12, 4, 0, 1, 2, 3, 4, 5, 6, 7, 8, 9, 10, 11, 12], [12])])
def spec_l1Spoil.B8 : List Nat := [0, 0, 3, 0, 8, 24, 56, 120, 255, 0, 0, 1536, 4095, 8191]
theorem spec_l1Spoil.tab8 : rtab .any (opsOf Tryd.f57 8) = spec_l1Spoil.T8 := by kernel_rfl
theorem spec_l1Spoil.bits8 : waitsOk spec_l1Spoil.T8.2 spec_l1Spoil.B8 = true := by kernel_rfl
def spec_l1Spoil.T11 : Bool × List (List Nat × List Nat) := (true, [([], []), ([], []), ([0, 1], [0, 1]), ([], []), ([], []), ([3, 4], [3, 4]), ([5], [5]), ([], []), ([7], [7]), ([8], [8]), ([6, 9], [6, 9]), ([10], [10]), ([11], [11]), ([12], [12]), ([2, 13], [2, 13]), ([], []), ([], []), ([16], [16]), ([15, 17], [15, 17]), ([14, 18], [14, 18]), ([19, 8, 0, 1, 2, 3, 4, 5, 6, 7, 8, 9, 10, 11, 12, 13, 14, 15, 16, 17, 18, 19], [19])])
def spec_l1Spoil.B11 : List Nat := [0, 0, 3, 0, 0, 24, 56, 0, 128, 384, 1016, 2040, 4088, 8184, 16383, 0, 0, 65536, 229376, 524287, 1048575]
theorem spec_l1Spoil.tab11 : rtab .any (opsOf Tryd.f57 11) = spec_l1Spoil.T11 := by kernel_rfl
theorem spec_l1Spoil.bits11 : waitsOk spec_l1Spoil.T11.2 spec_l1Spoil.B11 = true := by kernel_rfl
set_option maxHeartbeats 8000000 in
set_option maxRecDepth 100000 in
theorem spec_l1Spoil.calls (k : Nat) (g : Nat) (s0_0 : List Int) (s0_1 : Int) (s0_2 : Int) (a1 : ByteArray) (r1 : ByteArray) (r2 : Int) (r3 : Int) (w0 w : World) (hI : IsS110 w0 w g s0_0 s0_1 s0_2) (hB : Below w0.heap.size w0 w) (h : spec_l1Spoil.f k s0_0 s0_1 s0_2 a1 = some (r1, r2, r3)) :
  Calls Tryd.prog 57 #[.pointer (some ⟨g, 0, none⟩), .string a1] w fun e w' => e = .returned (.string r1) ∧ IsS110 w0 w' g s0_0 r2 r3 ∧ Below w0.heap.size w0 w' ∧ uV w w' g none := by
 have HI0 := Aside0.mk hI
 have HK := Aside0.mk (uV.refl w g none)
 have HL := Aside0.mk hB.size
 clear hI
 have HW0 := Aside0.mk hB.size
 have HB := Aside0.mk hB
 clear hB
 have H : (if (a1.size : Int) = 0 then ((spec_l1Text.f k s0_0 s0_1 s0_2 3).bind fun bt509 => (some (bt509.1, bt509.2.1, bt509.2.2))) else ((spec_l1Below.f s0_0 s0_1 s0_2 (a1.size : Int)).bind fun bt512 => ((spec_l1Below.f s0_0 bt512.2.1 bt512.2.2 4).bind fun bt515 => (if bt515.1 = 0 then (if 0 ≤ bt512.1 then (if bt512.1 ≤ (a1.size : Int) then (if 0 ≤ (wrap64 (bt512.1 + 1)) then (if (wrap64 (bt512.1 + 1)) ≤ (a1.size : Int) then (if (a1.extract 0 (bt512.1 : Int).toNat).size + (a1.extract ((wrap64 (bt512.1 + 1)) : Int).toNat a1.size).size ≤ 9223372036854775807 then (some ((a1.extract 0 (bt512.1 : Int).toNat) ++ (a1.extract ((wrap64 (bt512.1 + 1)) : Int).toNat a1.size), bt515.2.1, bt515.2.2)) else (none)) else (none)) else (none)) else (none)) else (none)) else (if bt515.1 = 1 then (if 0 ≤ bt512.1 then (if bt512.1 ≤ (a1.size : Int) then ((spec_l1Byte.f s0_0 bt515.2.1 bt515.2.2).bind fun bt518 => ((some (([(bt518.1) % 256] : List Int) : List Int)).bind fun y521 => (if (a1.extract 0 (bt512.1 : Int).toNat).size + (strOfNums y521).size ≤ 9223372036854775807 then (if ((a1.extract 0 (bt512.1 : Int).toNat) ++ (strOfNums y521)).size + (a1.extract (bt512.1 : Int).toNat a1.size).size ≤ 9223372036854775807 then (some (((a1.extract 0 (bt512.1 : Int).toNat) ++ (strOfNums y521)) ++ (a1.extract (bt512.1 : Int).toNat a1.size), bt518.2.1, bt518.2.2)) else (none)) else (none)))) else (none)) else (none)) else (if bt515.1 = 2 then (if 0 ≤ bt512.1 then (if bt512.1 ≤ (a1.size : Int) then (some (a1.extract 0 (bt512.1 : Int).toNat, bt515.2.1, bt515.2.2)) else (none)) else (none)) else (if 0 ≤ bt512.1 then (if bt512.1 ≤ (a1.size : Int) then (if bt512.1 < (a1.size : Int) then ((spec_l1Below.f s0_0 bt515.2.1 bt515.2.2 255).bind fun bt524 => ((some (([(Go.bits .xor .i64 (wrap64 (bt a1 bt512.1)) (wrap64 (1 + bt524.1))) % 256] : List Int) : List Int)).bind fun y527 => (if (a1.extract 0 (bt512.1 : Int).toNat).size + (strOfNums y527).size ≤ 9223372036854775807 then (if 0 ≤ (wrap64 (bt512.1 + 1)) then (if (wrap64 (bt512.1 + 1)) ≤ (a1.size : Int) then (if ((a1.extract 0 (bt512.1 : Int).toNat) ++ (strOfNums y527)).size + (a1.extract ((wrap64 (bt512.1 + 1)) : Int).toNat a1.size).size ≤ 9223372036854775807 then (some (((a1.extract 0 (bt512.1 : Int).toNat) ++ (strOfNums y527)) ++ (a1.extract ((wrap64 (bt512.1 + 1)) : Int).toNat a1.size), bt524.2.1, bt524.2.2)) else (none)) else (none)) else (none)) else (none)))) else (none)) else (none)) else (none)))))))) = some (r1, r2, r3) := h
 clear h
 by_cases c3 : (a1.size : Int) = 0
 ·rw [if_pos c3] at H
  have c3b0 := beq_iff_eq.mpr c3
  have c3b1 := bne_eq_false_iff_eq.mpr c3
  clear c3
  replace H := Option.bind_eq_some_iff.mp H
  obtain ⟨⟨t509, t510, t511⟩, A40, H⟩ := H
  try dsimp only at H
  have A4 := Aside0.mk A40
  clear A40
  simp only [Option.some.injEq, Prod.mk.injEq] at H
  obtain ⟨rfl, rfl, rfl⟩ := H
  go_enter Tryd.func57, Tryd.ntmps57
  go_wp2_with (first | ((with_reducible refine uB (f := 95) rfl ?_); refine uL (some 10) Tryd.func95 #[.pointer (some ⟨g, 0, none⟩), .int .i64 3] ?_; (with_reducible refine (spec_l1Text.calls k g s0_0 s0_1 s0_2 3 t509 t510 t511 w0 _ ?side1 ?side2 A4.out).mono ?_); (case side1 => exact cq3); (case side2 => exact cq6); rintro e w5 ⟨rfl, hi, hb, hk⟩; refine ⟨_, rfl, ?_⟩; replace HK := uX HK hk; replace HB := Aside0.mk (hb); replace HI0 := Aside0.mk (hi); (try clear hb); (try clear hk); (try clear hi)))
  go_ret
  exact ⟨cq5, cq3, cq6, cq11⟩
 rw [if_neg c3] at H
 have c3b0 := beq_eq_false_iff_ne.mpr c3
 have c3b1 := bne_iff_ne.mpr c3
 replace H := Option.bind_eq_some_iff.mp H
 obtain ⟨⟨t512, t513, t514⟩, A60, H⟩ := H
 try dsimp only at H
 have A6 := Aside0.mk A60
 clear A60
 replace H := Option.bind_eq_some_iff.mp H
 obtain ⟨⟨t515, t516, t517⟩, A70, H⟩ := H
 try dsimp only at H
 have A7 := Aside0.mk A70
 clear A70
 by_cases c8 : t515 = 0
 ·rw [if_pos c8] at H
  have c8b0 := beq_iff_eq.mpr c8
  have c8b1 := bne_eq_false_iff_eq.mpr c8
  clear c8
  by_cases c9 : 0 ≤ t512
  rotate_left
  ·rw [if_neg c9] at H
   exact absurd H (by simp)
  rw [if_pos c9] at H
  have c9b0 := eq_true c9
  have c9b1 := decide_eq_true c9
  clear c9
  by_cases c10 : t512 ≤ (a1.size : Int)
  rotate_left
  ·rw [if_neg c10] at H
   exact absurd H (by simp)
  rw [if_pos c10] at H
  have c10b0 := eq_true c10
  have c10b1 := decide_eq_true c10
  clear c10
  obtain ⟨ji11, hji11⟩ : ∃ j_ : Int, (wrap64 (t512 + 1)) = j_ := ⟨_, rfl⟩
  replace H : (if 0 ≤ (ji11) then (if (ji11) ≤ (a1.size : Int) then (if (a1.extract 0 (t512 : Int).toNat).size + (a1.extract ((ji11) : Int).toNat a1.size).size ≤ 9223372036854775807 then (some ((a1.extract 0 (t512 : Int).toNat) ++ (a1.extract ((ji11) : Int).toNat a1.size), t516, t517)) else (none)) else (none)) else (none)) = some (r1, r2, r3) := by first | (rw [hji11] at H; exact H) | (simp only [hji11] at H ⊢; exact H) | rfl
  (try rw [hji11] at A6)
  (try rw [hji11] at A7)
  have hji11w : (IntKind.i64.wrap (t512 + 1)) = ji11 := (vM _).trans hji11
  by_cases c12 : 0 ≤ (ji11)
  rotate_left
  ·rw [if_neg c12] at H
   exact absurd H (by simp)
  rw [if_pos c12] at H
  have c12b0 := eq_true c12
  have c12b1 := decide_eq_true c12
  clear c12
  by_cases c13 : (ji11) ≤ (a1.size : Int)
  rotate_left
  ·rw [if_neg c13] at H
   exact absurd H (by simp)
  rw [if_pos c13] at H
  have c13b0 := eq_true c13
  have c13b1 := decide_eq_true c13
  clear c13
  by_cases c14 : (a1.extract 0 (t512 : Int).toNat).size + (a1.extract ((ji11) : Int).toNat a1.size).size ≤ 9223372036854775807
  rotate_left
  ·rw [if_neg c14] at H
   exact absurd H (by simp)
  rw [if_pos c14] at H
  have c14b0 := eq_true c14
  have c14b1 := decide_eq_true c14
  try have c14b2 : (9223372036854775807 < (a1.extract 0 (t512 : Int).toNat).size + (a1.extract ((ji11) : Int).toNat a1.size).size) = False := eq_false (Nat.not_lt.2 c14)
  have c14b2_ : (9223372036854775807 < (t512 : Int).toNat + (a1.size - ((ji11) : Int).toNat)) = False := eq_false (Nat.not_lt.2 (by have z_ := c14; simp only [ByteArray.size_append, ByteArray.size_extract] at z_; (try simp only [eq_iff_iff, iff_true] at *); omega))
  simp only [Option.some.injEq, Prod.mk.injEq] at H
  obtain ⟨rfl, rfl, rfl⟩ := H
  go_enter Tryd.func57, Tryd.ntmps57
  try go_wp2_with (first | ((with_reducible refine uB (f := 52) rfl ?_); refine uL (some 14) Tryd.func52 #[.pointer (some ⟨g, 0, none⟩), .int .i64 (a1.size : Int)] ?_; (with_reducible refine (spec_l1Below.calls g s0_0 s0_1 s0_2 (a1.size : Int) t512 t513 t514 w0 _ ?side1 ?side2 A6.out).mono ?_); (case side1 => exact cq3); (case side2 => exact cq6); rintro e w15 ⟨rfl, hi, hb, hk⟩; refine ⟨_, rfl, ?_⟩; replace HK := uX HK hk; replace HB := Aside0.mk (hb); replace HI0 := Aside0.mk (hi); (try clear hb); (try clear hk); (try clear hi)) | ((with_reducible refine uB (f := 52) rfl ?_); refine uL (some 16) Tryd.func52 #[.pointer (some ⟨g, 0, none⟩), .int .i64 4] ?_; (with_reducible refine (spec_l1Below.calls g s0_0 t513 t514 4 t515 t516 t517 w0 _ ?side1 ?side2 A7.out).mono ?_); (case side1 => exact cq3); (case side2 => exact cq6); rintro e w16 ⟨rfl, hi, hb, hk⟩; refine ⟨_, rfl, ?_⟩; replace HK := uX HK hk; replace HB := Aside0.mk (hb); replace HI0 := Aside0.mk (hi); (try clear hb); (try clear hk); (try clear hi)))
  replace HI0 := Aside0.mk (IsS110.drew HI0.out)
  replace HK := Aside0.mk (keep_drew HK.out)
  replace HB := Aside0.mk (vL HB.out)
  refine start_ (n := 9) (S := fun w' => True) (ds := []) tb27 (by kernel_rfl) rfl rfl trivial (fun hHeld => ?_); refine with_tabW spec_l1Spoil.tab6 spec_l1Spoil.bits6 (fun HT_ HW_ => ?_)
  generalize w16.drew = w17 at HI0 HK HB hHeld ⊢
  refine uM 0 (some 19) tb82 ?_
  refine uM 1 (some 20) tb87 ?_
  refine uM 2 (some 21) tb92 ?_
  refine uM 3 (some 22) tb97 ?_
  refine uM 4 (some 23) tb31 ?_
  refine uM 5 (some 24) tb11 ?_
  refine uM 6 (some 25) tb34 ?_
  refine uM 7 (some 26) tb37 ?_
  refine uM 8 (some 4) tb38 ?_
  refine done_ (done_of HT_.out (by kernel_rfl)) ?_
  try go_wp2
  go_ret
  exact ⟨by first | rfl | (simp [errW_none, errW_some] <;> rfl) | (simp only [← hji11]; first | rfl | (simp [errW_none, errW_some] <;> rfl)) | (simp [*, errW_none, errW_some] <;> rfl), cq3, cq6, cq11⟩
 rw [if_neg c8] at H
 have c8b0 := beq_eq_false_iff_ne.mpr c8
 have c8b1 := bne_iff_ne.mpr c8
 by_cases c18 : t515 = 1
 ·rw [if_pos c18] at H
  have c18b0 := beq_iff_eq.mpr c18
  have c18b1 := bne_eq_false_iff_eq.mpr c18
  clear c18
  by_cases c19 : 0 ≤ t512
  rotate_left
  ·rw [if_neg c19] at H
   exact absurd H (by simp)
  rw [if_pos c19] at H
  have c19b0 := eq_true c19
  have c19b1 := decide_eq_true c19
  clear c19
  by_cases c20 : t512 ≤ (a1.size : Int)
  rotate_left
  ·rw [if_neg c20] at H
   exact absurd H (by simp)
  rw [if_pos c20] at H
  have c20b0 := eq_true c20
  have c20b1 := decide_eq_true c20
  clear c20
  replace H := Option.bind_eq_some_iff.mp H
  obtain ⟨⟨t518, t519, t520⟩, A210, H⟩ := H
  try dsimp only at H
  have A21 := Aside0.mk A210
  clear A210
  obtain ⟨y521, hy521⟩ : ∃ y_ : List Int, y_ = (([(t518) % 256] : List Int)) := ⟨_, rfl⟩
  replace H : (if (a1.extract 0 (t512 : Int).toNat).size + (strOfNums y521).size ≤ 9223372036854775807 then (if ((a1.extract 0 (t512 : Int).toNat) ++ (strOfNums y521)).size + (a1.extract (t512 : Int).toNat a1.size).size ≤ 9223372036854775807 then (some (((a1.extract 0 (t512 : Int).toNat) ++ (strOfNums y521)) ++ (a1.extract (t512 : Int).toNat a1.size), t519, t520)) else (none)) else (none)) = some (r1, r2, r3) := rpl hy521 H
  have Ny521 := Aside0.mk hy521
  clear hy521
  by_cases c22 : (a1.extract 0 (t512 : Int).toNat).size + (strOfNums y521).size ≤ 9223372036854775807
  rotate_left
  ·rw [if_neg c22] at H
   exact absurd H (by simp)
  rw [if_pos c22] at H
  have c22b0 := eq_true c22
  have c22b1 := decide_eq_true c22
  try have c22b2 : (9223372036854775807 < (a1.extract 0 (t512 : Int).toNat).size + (strOfNums y521).size) = False := eq_false (Nat.not_lt.2 c22)
  have c22b2_ : (9223372036854775807 < (t512 : Int).toNat + (strOfNums y521).size) = False := eq_false (Nat.not_lt.2 (by have z_ := c22; simp only [ByteArray.size_append, ByteArray.size_extract] at z_; (try simp only [eq_iff_iff, iff_true] at *); omega))
  have c23b0 := eq_true (of_decide_eq_true vC : 0 ≤ t512)
  have c24b0 := eq_true (of_decide_eq_true vC : t512 ≤ (a1.size : Int))
  by_cases c25 : ((a1.extract 0 (t512 : Int).toNat) ++ (strOfNums y521)).size + (a1.extract (t512 : Int).toNat a1.size).size ≤ 9223372036854775807
  rotate_left
  ·rw [if_neg c25] at H
   exact absurd H (by simp)
  rw [if_pos c25] at H
  have c25b0 := eq_true c25
  have c25b1 := decide_eq_true c25
  try have c25b2 : (9223372036854775807 < ((a1.extract 0 (t512 : Int).toNat) ++ (strOfNums y521)).size + (a1.extract (t512 : Int).toNat a1.size).size) = False := eq_false (Nat.not_lt.2 c25)
  have c25b3 : (9223372036854775807 < (a1.extract 0 (t512 : Int).toNat).size + (strOfNums y521).size + (a1.extract (t512 : Int).toNat a1.size).size) = False := eq_false (Nat.not_lt.2 (by have z_ := c25; (repeat rw [ByteArray.size_append] at z_); exact z_))
  have c25b3_ : (9223372036854775807 < (t512 : Int).toNat + (strOfNums y521).size + (a1.size - (t512 : Int).toNat)) = False := eq_false (Nat.not_lt.2 (by have z_ := c25; simp only [ByteArray.size_append, ByteArray.size_extract] at z_; (try simp only [eq_iff_iff, iff_true] at *); omega))
  simp only [Option.some.injEq, Prod.mk.injEq] at H
  obtain ⟨rfl, rfl, rfl⟩ := H
  go_enter Tryd.func57, Tryd.ntmps57
  try go_wp2_with (first | ((with_reducible refine uB (f := 52) rfl ?_); refine uL (some 14) Tryd.func52 #[.pointer (some ⟨g, 0, none⟩), .int .i64 (a1.size : Int)] ?_; (with_reducible refine (spec_l1Below.calls g s0_0 s0_1 s0_2 (a1.size : Int) t512 t513 t514 w0 _ ?side1 ?side2 A6.out).mono ?_); (case side1 => exact cq3); (case side2 => exact cq6); rintro e w26 ⟨rfl, hi, hb, hk⟩; refine ⟨_, rfl, ?_⟩; replace HK := uX HK hk; replace HB := Aside0.mk (hb); replace HI0 := Aside0.mk (hi); (try clear hb); (try clear hk); (try clear hi)) | ((with_reducible refine uB (f := 52) rfl ?_); refine uL (some 16) Tryd.func52 #[.pointer (some ⟨g, 0, none⟩), .int .i64 4] ?_; (with_reducible refine (spec_l1Below.calls g s0_0 t513 t514 4 t515 t516 t517 w0 _ ?side1 ?side2 A7.out).mono ?_); (case side1 => exact cq3); (case side2 => exact cq6); rintro e w27 ⟨rfl, hi, hb, hk⟩; refine ⟨_, rfl, ?_⟩; replace HK := uX HK hk; replace HB := Aside0.mk (hb); replace HI0 := Aside0.mk (hi); (try clear hb); (try clear hk); (try clear hi)))
  replace HI0 := Aside0.mk (IsS110.drew HI0.out)
  replace HK := Aside0.mk (keep_drew HK.out)
  replace HB := Aside0.mk (vL HB.out)
  refine start_ (n := 14) (S := fun w' => True) (ds := []) tb25 (by kernel_rfl) rfl rfl trivial (fun hHeld => ?_); refine with_tabW spec_l1Spoil.tab8 spec_l1Spoil.bits8 (fun HT_ HW_ => ?_)
  generalize w27.drew = w28 at HI0 HK HB hHeld ⊢
  refine uM 0 (some 29) tb26 ?_
  refine uM 1 (some 30) #[true, true, false, false, false, false, false, false, false, false, false, false, false, false] ?_
  refine uM 2 (some 31) #[true, true, true, false, false, false, false, false, false, false, false, false, false, false] ?_
  refine uM 3 (some 32) #[true, true, true, true, false, false, false, false, false, false, false, false, false, false] ?_
  refine uM 9 (some 38) #[true, true, true, true, false, false, false, false, false, true, false, false, false, false] ?_
  refine uM 10 (some 39) #[true, true, true, true, false, false, false, false, false, true, true, false, false, false] ?_
  refine uM 11 (some 40) #[true, true, true, true, false, false, false, false, false, true, true, true, false, false] ?_
  refine oneT 4 (some 33) #[true, true, true, true, true, false, false, false, false, true, true, true, false, false] (fun K hK => ?_)
  refine goesT Tryd.func94 #[.pointer (some ⟨g, 0, none⟩)] ?_
  with_reducible refine (spec_l1Byte.calls g s0_0 t516 t517 t518 t519 t520 w0 _ ?side1 ?side2 A21.out).mono ?_
  (case side1 => exact cq3)
  (case side2 => exact cq6)
  rintro e w29 ⟨rfl, hi, hb, hk⟩
  refine ⟨_, rfl, ?_⟩
  replace HK := uX HK hk
  replace HB := Aside0.mk (hb)
  replace HI0 := Aside0.mk (hi)
  (try clear hb)
  (try clear hk)
  (try clear hi)
  refine hK.out _ _ trivial (fun hHeld => ?_)
  clear hK K
  refine vH (some 33) ?_
  refine uM 5 (some 34) #[true, true, true, true, true, true, false, false, false, true, true, true, false, false] ?_
  refine oneT 6 (some 35) #[true, true, true, true, true, true, true, false, false, true, true, true, false, false] (fun K hK => ?_)
  refine Kd.R_lit_step (Kd.int .u8) _ 5 ?hg (N := 35) ?hd (xs := ([(t518) % 256] : List Int)) (inner := [.int .u8 ((t518) % 256)]) (ok := fun _ => True) (okp := fun _ => True) ?hr ?hp (fun _ hk => hk) trivial (Below.refl _ _) (Nat.le_refl _) (by simp) ?_; (case hd => rfl); (case hg => rfl); (case hr => first | (go_simp; done) | (go_simp; rfl)); (case hp => exact (Reps.one (show Kd.M (Kd.int .u8) _ _ _ ((t518) % 256) [.int .u8 ((t518) % 256)] from rfl) (Reps.none _ _)))
  intro v522 w30 ho31 hb hg_ hnew_
  clear hg_ hnew_
  (first | rw [← Ny521.out] at ho31 | (simp only [Int.reduceToNat] at ho31; rw [← Ny521.out] at ho31))
  have HO523 := Aside0.mk (Kd.uN ho31 (vG (w := w) (g := g) (row := none) cq11))
  replace HI0 := Aside0.mk (IsS110.below cq3 hb)
  replace HK := uX HK (uV.of_below hb g none)
  replace HB := tBel1 HB hb
  clear hb ho31
  refine hK.out _ _ trivial (fun hHeld => ?_)
  clear hK K
  refine vH (some 35) ?_
  refine oneT 7 (some 36) #[true, true, true, true, true, true, true, true, false, true, true, true, false, false] (fun K hK => ?_)
  have hcv32 := own_string (P := Tryd.prog) Tryd.underlying22 Tryd.underlying5 Tryd.underlying9 (Kd.own_of_R HO523.out)
  refine value_ (w1 := ?_) (v := ?_) (by rfl) rfl ?_ ?_
  rotate_left 2
  ·go_simp
   constructor
   ·rfl
   rfl
  clear hcv32
  refine hK.out _ _ trivial (fun hHeld => ?_)
  clear hK K
  refine vH (some 36) ?_
  refine uM 8 (some 37) tb32 ?_
  refine uM 12 (some 41) tb33 ?_
  refine uM 13 (some 4) tb36 ?_
  refine done_ (done_of HT_.out (by kernel_rfl)) ?_
  try go_wp2
  go_ret
  exact ⟨cq5, cq3, cq6, cq11⟩
 rw [if_neg c18] at H
 have c18b0 := beq_eq_false_iff_ne.mpr c18
 have c18b1 := bne_iff_ne.mpr c18
 by_cases c33 : t515 = 2
 ·rw [if_pos c33] at H
  have c33b0 := beq_iff_eq.mpr c33
  have c33b1 := bne_eq_false_iff_eq.mpr c33
  clear c33
  by_cases c34 : 0 ≤ t512
  rotate_left
  ·rw [if_neg c34] at H
   exact absurd H (by simp)
  rw [if_pos c34] at H
  have c34b0 := eq_true c34
  have c34b1 := decide_eq_true c34
  clear c34
  by_cases c35 : t512 ≤ (a1.size : Int)
  rotate_left
  ·rw [if_neg c35] at H
   exact absurd H (by simp)
  rw [if_pos c35] at H
  have c35b0 := eq_true c35
  have c35b1 := decide_eq_true c35
  clear c35
  simp only [Option.some.injEq, Prod.mk.injEq] at H
  obtain ⟨rfl, rfl, rfl⟩ := H
  go_enter Tryd.func57, Tryd.ntmps57
  go_wp2_with (first | ((with_reducible refine uB (f := 52) rfl ?_); refine uL (some 14) Tryd.func52 #[.pointer (some ⟨g, 0, none⟩), .int .i64 (a1.size : Int)] ?_; (with_reducible refine (spec_l1Below.calls g s0_0 s0_1 s0_2 (a1.size : Int) t512 t513 t514 w0 _ ?side1 ?side2 A6.out).mono ?_); (case side1 => exact cq3); (case side2 => exact cq6); rintro e w36 ⟨rfl, hi, hb, hk⟩; refine ⟨_, rfl, ?_⟩; replace HK := uX HK hk; replace HB := Aside0.mk (hb); replace HI0 := Aside0.mk (hi); (try clear hb); (try clear hk); (try clear hi)) | ((with_reducible refine uB (f := 52) rfl ?_); refine uL (some 16) Tryd.func52 #[.pointer (some ⟨g, 0, none⟩), .int .i64 4] ?_; (with_reducible refine (spec_l1Below.calls g s0_0 t513 t514 4 t515 t516 t517 w0 _ ?side1 ?side2 A7.out).mono ?_); (case side1 => exact cq3); (case side2 => exact cq6); rintro e w37 ⟨rfl, hi, hb, hk⟩; refine ⟨_, rfl, ?_⟩; replace HK := uX HK hk; replace HB := Aside0.mk (hb); replace HI0 := Aside0.mk (hi); (try clear hb); (try clear hk); (try clear hi)))
  go_ret
  exact ⟨cq5, cq3, cq6, cq11⟩
 rw [if_neg c33] at H
 have c33b0 := beq_eq_false_iff_ne.mpr c33
 have c33b1 := bne_iff_ne.mpr c33
 by_cases c38 : 0 ≤ t512
 rotate_left
 ·rw [if_neg c38] at H
  exact absurd H (by simp)
 rw [if_pos c38] at H
 have c38b0 := eq_true c38
 have c38b1 := decide_eq_true c38
 clear c38
 by_cases c39 : t512 ≤ (a1.size : Int)
 rotate_left
 ·rw [if_neg c39] at H
  exact absurd H (by simp)
 rw [if_pos c39] at H
 have c39b0 := eq_true c39
 have c39b1 := decide_eq_true c39
 clear c39
 obtain ⟨c40b0, H⟩ := ifD H
 replace H := Option.bind_eq_some_iff.mp H
 obtain ⟨⟨t524, t525, t526⟩, A420, H⟩ := H
 try dsimp only at H
 have A42 := Aside0.mk A420
 clear A420
 obtain ⟨y527, hy527⟩ : ∃ y_ : List Int, y_ = (([(Go.bits .xor .i64 (wrap64 (bt a1 t512)) (wrap64 (1 + t524))) % 256] : List Int)) := ⟨_, rfl⟩
 replace H : (if (a1.extract 0 (t512 : Int).toNat).size + (strOfNums y527).size ≤ 9223372036854775807 then (if 0 ≤ (wrap64 (t512 + 1)) then (if (wrap64 (t512 + 1)) ≤ (a1.size : Int) then (if ((a1.extract 0 (t512 : Int).toNat) ++ (strOfNums y527)).size + (a1.extract ((wrap64 (t512 + 1)) : Int).toNat a1.size).size ≤ 9223372036854775807 then (some (((a1.extract 0 (t512 : Int).toNat) ++ (strOfNums y527)) ++ (a1.extract ((wrap64 (t512 + 1)) : Int).toNat a1.size), t525, t526)) else (none)) else (none)) else (none)) else (none)) = some (r1, r2, r3) := rpl hy527 H
 have Ny527 := Aside0.mk hy527
 clear hy527
 by_cases c43 : (a1.extract 0 (t512 : Int).toNat).size + (strOfNums y527).size ≤ 9223372036854775807
 rotate_left
 ·rw [if_neg c43] at H
  exact absurd H (by simp)
 rw [if_pos c43] at H
 have c43b0 := eq_true c43
 have c43b1 := decide_eq_true c43
 try have c43b2 : (9223372036854775807 < (a1.extract 0 (t512 : Int).toNat).size + (strOfNums y527).size) = False := eq_false (Nat.not_lt.2 c43)
 have c43b2_ : (9223372036854775807 < (t512 : Int).toNat + (strOfNums y527).size) = False := eq_false (Nat.not_lt.2 (by have z_ := c43; simp only [ByteArray.size_append, ByteArray.size_extract] at z_; (try simp only [eq_iff_iff, iff_true] at *); omega))
 obtain ⟨ji44, hji44⟩ : ∃ j_ : Int, (wrap64 (t512 + 1)) = j_ := ⟨_, rfl⟩
 replace H : (if 0 ≤ (ji44) then (if (ji44) ≤ (a1.size : Int) then (if ((a1.extract 0 (t512 : Int).toNat) ++ (strOfNums y527)).size + (a1.extract ((ji44) : Int).toNat a1.size).size ≤ 9223372036854775807 then (some (((a1.extract 0 (t512 : Int).toNat) ++ (strOfNums y527)) ++ (a1.extract ((ji44) : Int).toNat a1.size), t525, t526)) else (none)) else (none)) else (none)) = some (r1, r2, r3) := by first | (rw [hji44] at H; exact H) | (simp only [hji44] at H ⊢; exact H) | rfl
 (try rw [hji44] at A6)
 (try rw [hji44] at A7)
 (try rw [hji44] at A42)
 have hji44w : (IntKind.i64.wrap (t512 + 1)) = ji44 := (vM _).trans hji44
 by_cases c45 : 0 ≤ (ji44)
 rotate_left
 ·rw [if_neg c45] at H
  exact absurd H (by simp)
 rw [if_pos c45] at H
 have c45b0 := eq_true c45
 have c45b1 := decide_eq_true c45
 clear c45
 by_cases c46 : (ji44) ≤ (a1.size : Int)
 rotate_left
 ·rw [if_neg c46] at H
  exact absurd H (by simp)
 rw [if_pos c46] at H
 have c46b0 := eq_true c46
 have c46b1 := decide_eq_true c46
 clear c46
 by_cases c47 : ((a1.extract 0 (t512 : Int).toNat) ++ (strOfNums y527)).size + (a1.extract ((ji44) : Int).toNat a1.size).size ≤ 9223372036854775807
 rotate_left
 ·rw [if_neg c47] at H
  exact absurd H (by simp)
 rw [if_pos c47] at H
 have c47b0 := eq_true c47
 have c47b1 := decide_eq_true c47
 try have c47b2 : (9223372036854775807 < ((a1.extract 0 (t512 : Int).toNat) ++ (strOfNums y527)).size + (a1.extract ((ji44) : Int).toNat a1.size).size) = False := eq_false (Nat.not_lt.2 c47)
 have c47b3 : (9223372036854775807 < (a1.extract 0 (t512 : Int).toNat).size + (strOfNums y527).size + (a1.extract ((ji44) : Int).toNat a1.size).size) = False := eq_false (Nat.not_lt.2 (by have z_ := c47; (repeat rw [ByteArray.size_append] at z_); exact z_))
 have c47b3_ : (9223372036854775807 < (t512 : Int).toNat + (strOfNums y527).size + (a1.size - ((ji44) : Int).toNat)) = False := eq_false (Nat.not_lt.2 (by have z_ := c47; simp only [ByteArray.size_append, ByteArray.size_extract] at z_; (try simp only [eq_iff_iff, iff_true] at *); omega))
 simp only [Option.some.injEq, Prod.mk.injEq] at H
 obtain ⟨rfl, rfl, rfl⟩ := H
 go_enter Tryd.func57, Tryd.ntmps57
 try go_wp2_with (first | ((with_reducible refine uB (f := 52) rfl ?_); refine uL (some 14) Tryd.func52 #[.pointer (some ⟨g, 0, none⟩), .int .i64 (a1.size : Int)] ?_; (with_reducible refine (spec_l1Below.calls g s0_0 s0_1 s0_2 (a1.size : Int) t512 t513 t514 w0 _ ?side1 ?side2 A6.out).mono ?_); (case side1 => exact cq3); (case side2 => exact cq6); rintro e w48 ⟨rfl, hi, hb, hk⟩; refine ⟨_, rfl, ?_⟩; replace HK := uX HK hk; replace HB := Aside0.mk (hb); replace HI0 := Aside0.mk (hi); (try clear hb); (try clear hk); (try clear hi)) | ((with_reducible refine uB (f := 52) rfl ?_); refine uL (some 16) Tryd.func52 #[.pointer (some ⟨g, 0, none⟩), .int .i64 4] ?_; (with_reducible refine (spec_l1Below.calls g s0_0 t513 t514 4 t515 t516 t517 w0 _ ?side1 ?side2 A7.out).mono ?_); (case side1 => exact cq3); (case side2 => exact cq6); rintro e w49 ⟨rfl, hi, hb, hk⟩; refine ⟨_, rfl, ?_⟩; replace HK := uX HK hk; replace HB := Aside0.mk (hb); replace HI0 := Aside0.mk (hi); (try clear hb); (try clear hk); (try clear hi)))
 replace HI0 := Aside0.mk (IsS110.drew HI0.out)
 replace HK := Aside0.mk (keep_drew HK.out)
 replace HB := Aside0.mk (vL HB.out)
 have p41 : 0 ≤ (t512 : Int) := of_decide_eq_true vC
 have q41 : t512 < (a1.size : Int) := of_decide_eq_true vC
 have hx41 := bt_at a1 t512
 replace p41 := eq_true p41
 replace q41 := eq_true q41
 refine start_ (n := 21) (S := fun w' => True) (ds := []) #[false, false, false, false, false, false, false, false, false, false, false, false, false, false, false, false, false, false, false, false, false] (by kernel_rfl) rfl rfl trivial (fun hHeld => ?_); refine with_tabW spec_l1Spoil.tab11 spec_l1Spoil.bits11 (fun HT_ HW_ => ?_)
 generalize w49.drew = w50 at HI0 HK HB hHeld ⊢
 refine uM 0 (some 47) #[true, false, false, false, false, false, false, false, false, false, false, false, false, false, false, false, false, false, false, false, false] ?_
 refine uM 1 (some 48) #[true, true, false, false, false, false, false, false, false, false, false, false, false, false, false, false, false, false, false, false, false] ?_
 refine uM 2 (some 49) #[true, true, true, false, false, false, false, false, false, false, false, false, false, false, false, false, false, false, false, false, false] ?_
 refine uM 3 (some 50) #[true, true, true, true, false, false, false, false, false, false, false, false, false, false, false, false, false, false, false, false, false] ?_
 refine uM 4 (some 51) #[true, true, true, true, true, false, false, false, false, false, false, false, false, false, false, false, false, false, false, false, false] ?_
 refine uM 7 (some 54) #[true, true, true, true, true, false, false, true, false, false, false, false, false, false, false, false, false, false, false, false, false] ?_
 refine uM 15 (some 62) #[true, true, true, true, true, false, false, true, false, false, false, false, false, false, false, true, false, false, false, false, false] ?_
 refine uM 16 (some 63) #[true, true, true, true, true, false, false, true, false, false, false, false, false, false, false, true, true, false, false, false, false] ?_
 refine uM 17 (some 64) #[true, true, true, true, true, false, false, true, false, false, false, false, false, false, false, true, true, true, false, false, false] ?_
 refine uM 18 (some 65) #[true, true, true, true, true, false, false, true, false, false, false, false, false, false, false, true, true, true, true, false, false] ?_
 refine take_ (i := 5) (N := some 52) (v := ?_) (a' := ?_) #[true, true, true, true, true, true, false, true, false, false, false, false, false, false, false, true, true, true, true, false, false] rfl rfl (take_ofW HT_.out HW_.out (by kernel_rfl)) (fun _ _ _ h => h) (Or.inl ⟨by rfl, ?_⟩) hHeld ?_ ?_
 rotate_left
 ·intro w' _
  go_simp
  with_reducible rfl
 rotate_left
 ·simp only [Act.put, vZ, yA, yB, vM, vO]
  rfl
 refine uM 6 (some 53) #[true, true, true, true, true, true, true, true, false, false, false, false, false, false, false, true, true, true, true, false, false] ?_
 refine oneT 8 (some 55) #[true, true, true, true, true, true, true, true, true, false, false, false, false, false, false, true, true, true, true, false, false] (fun K hK => ?_)
 refine goesT Tryd.func52 #[.pointer (some ⟨g, 0, none⟩), .int .i64 255] ?_
 with_reducible refine (spec_l1Below.calls g s0_0 t516 t517 255 t524 t525 t526 w0 _ ?side1 ?side2 A42.out).mono ?_
 (case side1 => exact cq3)
 (case side2 => exact cq6)
 rintro e w51 ⟨rfl, hi, hb, hk⟩
 refine ⟨_, rfl, ?_⟩
 replace HK := uX HK hk
 replace HB := Aside0.mk (hb)
 replace HI0 := Aside0.mk (hi)
 (try clear hb)
 (try clear hk)
 (try clear hi)
 refine hK.out _ _ trivial (fun hHeld => ?_)
 clear hK K
 refine vH (some 55) ?_
 refine uM 9 (some 56) #[true, true, true, true, true, true, true, true, true, true, false, false, false, false, false, true, true, true, true, false, false] ?_
 refine uM 10 (some 57) #[true, true, true, true, true, true, true, true, true, true, true, false, false, false, false, true, true, true, true, false, false] ?_
 refine uM 11 (some 58) #[true, true, true, true, true, true, true, true, true, true, true, true, false, false, false, true, true, true, true, false, false] ?_
 refine oneT 12 (some 59) #[true, true, true, true, true, true, true, true, true, true, true, true, true, false, false, true, true, true, true, false, false] (fun K hK => ?_)
 refine Kd.R_lit_step (Kd.int .u8) _ 5 ?hg (N := 59) ?hd (xs := ([(Go.bits .xor .i64 (wrap64 (bt a1 t512)) (wrap64 (1 + t524))) % 256] : List Int)) (inner := [.int .u8 ((Go.bits .xor .i64 (wrap64 (bt a1 t512)) (wrap64 (1 + t524))) % 256)]) (ok := fun _ => True) (okp := fun _ => True) ?hr ?hp (fun _ hk => hk) trivial (Below.refl _ _) (Nat.le_refl _) (by simp) ?_; (case hd => rfl); (case hg => rfl); (case hr => first | (go_simp; done) | (go_simp; rfl)); (case hp => exact (Reps.one (show Kd.M (Kd.int .u8) _ _ _ ((Go.bits .xor .i64 (wrap64 (bt a1 t512)) (wrap64 (1 + t524))) % 256) [.int .u8 ((Go.bits .xor .i64 (wrap64 (bt a1 t512)) (wrap64 (1 + t524))) % 256)] from rfl) (Reps.none _ _)))
 intro v528 w52 ho53 hb hg_ hnew_
 clear hg_ hnew_
 (first | rw [← Ny527.out] at ho53 | (simp only [Int.reduceToNat] at ho53; rw [← Ny527.out] at ho53))
 have HO529 := Aside0.mk (Kd.uN ho53 (vG (w := w) (g := g) (row := none) cq11))
 replace HI0 := Aside0.mk (IsS110.below cq3 hb)
 replace HK := uX HK (uV.of_below hb g none)
 replace HB := tBel1 HB hb
 clear hb ho53
 refine hK.out _ _ trivial (fun hHeld => ?_)
 clear hK K
 refine vH (some 59) ?_
 refine oneT 13 (some 60) #[true, true, true, true, true, true, true, true, true, true, true, true, true, true, false, true, true, true, true, false, false] (fun K hK => ?_)
 have hcv54 := own_string (P := Tryd.prog) Tryd.underlying22 Tryd.underlying5 Tryd.underlying9 (Kd.own_of_R HO529.out)
 refine value_ (w1 := ?_) (v := ?_) (by rfl) rfl ?_ ?_
 rotate_left 2
 ·go_simp
  constructor
  ·rfl
  rfl
 clear hcv54
 refine hK.out _ _ trivial (fun hHeld => ?_)
 clear hK K
 refine vH (some 60) ?_
 refine uM 14 (some 61) #[true, true, true, true, true, true, true, true, true, true, true, true, true, true, true, true, true, true, true, false, false] ?_
 refine uM 19 (some 66) #[true, true, true, true, true, true, true, true, true, true, true, true, true, true, true, true, true, true, true, true, false] ?_
 refine uM 20 (some 4) #[true, true, true, true, true, true, true, true, true, true, true, true, true, true, true, true, true, true, true, true, true] ?_
 refine done_ (done_of HT_.out (by kernel_rfl)) ?_
 try go_wp2
 go_ret
 exact ⟨by first | rfl | (simp [errW_none, errW_some] <;> rfl) | (simp only [← hji44]; first | rfl | (simp [errW_none, errW_some] <;> rfl)) | (simp [*, errW_none, errW_some] <;> rfl), cq3, cq6, cq11⟩

/-! ### spec_DrawReceiveChunk: function 21 -/
def spec_DrawReceiveChunk.f (k : Nat) (l0 : List Int) : Option (List ByteArray × ByteArray) := (spec_l1New.f k l0).bind fun bt530 => ((spec_l7Parts.f k bt530.1 bt530.2.1 bt530.2.2).bind fun bt534 => (if (bt534.1.length : Int) = 0 then (some (bt534.2.1, (⟨#[48, 47, 49, 58, 35, 48]⟩ : ByteArray))) else ((spec_l1Below.f bt530.1 bt534.2.2.1 bt534.2.2.2 (bt534.1.length : Int)).bind fun bt542 => (if 0 ≤ bt542.1 then (if bt542.1 < (bt534.1.length : Int) then ((spec_l1Once.f bt530.1 bt542.2.1 bt542.2.2 4).bind fun bt546 => (if bt546.1 = true then ((spec_l1Spoil.f k bt530.1 bt546.2.1 bt546.2.2 (rdOf ByteArray.empty bt534.1 bt542.1)).bind fun bt549 => (some (bt534.2.1, bt549.1))) else (some (bt534.2.1, rdOf ByteArray.empty bt534.1 bt542.1)))) else (none)) else (none)))))
theorem spec_DrawReceiveChunk.mono : ∀ a0 k, uA (spec_DrawReceiveChunk.f k a0) (spec_DrawReceiveChunk.f (k + 1) a0) := by
 intro a0 k
 unfold spec_DrawReceiveChunk.f
 repeat' first
   | (with_reducible exact spec_l1New.mono _ _)
   | (with_reducible exact spec_l1Spoil.mono _ _ _ _ _)
   | (with_reducible exact spec_l7Parts.mono _ _ _ _)
   | (with_reducible exact uA.refl _)
   | (with_reducible exact uA.none _)
   | (with_reducible refine uA.vA ?_ ?_)
   | (with_reducible refine uA.bind ?_ (fun _ => ?_))
   | exact uA.none _
   | refine uA.vA ?_ ?_
   | refine uA.bind ?_ (fun _ => ?_)
set_option maxHeartbeats 8000000 in
set_option maxRecDepth 100000 in
theorem spec_DrawReceiveChunk.calls (k : Nat) (A0 : Option Addr) (c0 : Nat) (l0 : List Int) (r1 : List ByteArray) (r2 : ByteArray) (w : World) (hr0 : Kd.C (Kd.int .u8) w A0 l0.length l0) (hc0 : l0.length ≤ c0) (h : spec_DrawReceiveChunk.f k l0 = some (r1, r2)) :
  Calls Tryd.prog 21 #[.slice A0 l0.length c0] w fun e w' => ∃ v0_ : Value, e = .returned (.tuple #[v0_, .string r2]) ∧ Kd.R Kd.string 9 w' w.heap.size (fun _ => True) v0_ r1 ∧ Below w.heap.size w w' := by
 have HR0 := Aside0.mk hr0
 have HC0 := Aside0.mk hc0
 clear hr0 hc0
 have HB := Aside0.mk (Below.refl w.heap.size w)
 have H : ((spec_l1New.f k l0).bind fun bt530 => ((spec_l7Parts.f k bt530.1 bt530.2.1 bt530.2.2).bind fun bt534 => (if (bt534.1.length : Int) = 0 then (some (bt534.2.1, (⟨#[48, 47, 49, 58, 35, 48]⟩ : ByteArray))) else ((spec_l1Below.f bt530.1 bt534.2.2.1 bt534.2.2.2 (bt534.1.length : Int)).bind fun bt542 => (if 0 ≤ bt542.1 then (if bt542.1 < (bt534.1.length : Int) then ((spec_l1Once.f bt530.1 bt542.2.1 bt542.2.2 4).bind fun bt546 => (if bt546.1 = true then ((spec_l1Spoil.f k bt530.1 bt546.2.1 bt546.2.2 (rdOf ByteArray.empty bt534.1 bt542.1)).bind fun bt549 => (some (bt534.2.1, bt549.1))) else (some (bt534.2.1, rdOf ByteArray.empty bt534.1 bt542.1)))) else (none)) else (none)))))) = some (r1, r2) := h
 clear h
 replace H := Option.bind_eq_some_iff.mp H
 obtain ⟨⟨t530, t531, t532⟩, A20, H⟩ := H
 try dsimp only at H
 have A2 := Aside0.mk A20
 clear A20
 replace H := Option.bind_eq_some_iff.mp H
 obtain ⟨⟨t534, t537, t540, t541⟩, A30, H⟩ := H
 try dsimp only at H
 have A3 := Aside0.mk A30
 clear A30
 by_cases c4 : (t534.length : Int) = 0
 ·rw [if_pos c4] at H
  have c4b0 := beq_iff_eq.mpr c4
  have c4b1 := bne_eq_false_iff_eq.mpr c4
  clear c4
  simp only [Option.some.injEq, Prod.mk.injEq] at H
  obtain ⟨rfl, rfl⟩ := H
  go_enter Tryd.func21, Tryd.ntmps21
  go_wp2_with (first | ((with_reducible refine uB (f := 50) rfl ?_); refine uL (some 9) Tryd.func50 #[.slice A0 l0.length c0] ?_; (with_reducible refine (spec_l1New.calls k _ _ l0 t530 t531 t532 w _ ?side1 ?side2 ?side3 A2.out).mono ?_); (case side1 => exact uW); (case side2 => exact HR0.out); (case side3 => exact HC0.out); rintro e w5 ⟨g533, rfl, hi, hb, hb2⟩; refine ⟨_, rfl, ?_⟩; have HI533 := Aside0.mk (hi); replace HB := Aside0.mk (hb); (try clear hb); (try clear hb2); (try clear hi)) | ((with_reducible refine uB (f := 56) rfl ?_); refine uL (some 12) Tryd.func56 #[.pointer (some ⟨g533, 0, none⟩)] ?_; (with_reducible refine (spec_l7Parts.calls k g533 t530 t531 t532 t534 t537 t540 t541 w _ ?side1 ?side2 A3.out).mono ?_); (case side1 => exact cq24); (case side2 => exact cq13); rintro e w6 ⟨v535, v538, rfl, ho0, ho1, hi, hb, hk⟩; refine ⟨_, rfl, ?_⟩; have HO536 := Aside0.mk (Kd.uN ho0 (uR cq13)); have HO539 := Aside0.mk (Kd.uN ho1 (uR cq13)); replace HB := Aside0.mk (hb); replace HI533 := Aside0.mk (hi); (try clear hb); (try clear hk); (try clear hi); (try clear ho0); (try clear ho1); obtain ⟨Ao7, co7, eo7⟩ := Kd.uS HO536.out; subst eo7))
  go_ret2
  exact ⟨_, cq5, cq105, cq13⟩
 rw [if_neg c4] at H
 have c4b0 := beq_eq_false_iff_ne.mpr c4
 have c4b1 := bne_iff_ne.mpr c4
 have c4b2 : ¬ (t534 = []) := fun h_ => c4 (by rw [h_]; rfl)
 replace H := Option.bind_eq_some_iff.mp H
 obtain ⟨⟨t542, t543, t544⟩, A80, H⟩ := H
 try dsimp only at H
 have A8 := Aside0.mk A80
 clear A80
 obtain ⟨c9b0, H⟩ := ifD H
 obtain ⟨c10b0, H⟩ := ifD H
 replace H := Option.bind_eq_some_iff.mp H
 obtain ⟨⟨t546, t547, t548⟩, A110, H⟩ := H
 try dsimp only at H
 have A11 := Aside0.mk A110
 clear A110
 by_cases c12 : t546 = true
 rotate_left
 ·replace c12 := Bool.eq_false_iff.mpr c12
  subst c12
  try rw [if_neg (show ¬ (false = true) by decide)] at H
  simp only [Option.some.injEq, Prod.mk.injEq] at H
  obtain ⟨rfl, rfl⟩ := H
  go_enter Tryd.func21, Tryd.ntmps21
  go_wp2_with (first | ((with_reducible refine uB (f := 50) rfl ?_); refine uL (some 9) Tryd.func50 #[.slice A0 l0.length c0] ?_; (with_reducible refine (spec_l1New.calls k _ _ l0 t530 t531 t532 w _ ?side1 ?side2 ?side3 A2.out).mono ?_); (case side1 => exact uW); (case side2 => exact HR0.out); (case side3 => exact HC0.out); rintro e w20 ⟨g533, rfl, hi, hb, hb2⟩; refine ⟨_, rfl, ?_⟩; have HI533 := Aside0.mk (hi); replace HB := Aside0.mk (hb); (try clear hb); (try clear hb2); (try clear hi)) | ((with_reducible refine uB (f := 56) rfl ?_); refine uL (some 12) Tryd.func56 #[.pointer (some ⟨g533, 0, none⟩)] ?_; (with_reducible refine (spec_l7Parts.calls k g533 t530 t531 t532 t534 t537 t540 t541 w _ ?side1 ?side2 A3.out).mono ?_); (case side1 => exact cq24); (case side2 => exact cq13); rintro e w21 ⟨v535, v538, rfl, ho0, ho1, hi, hb, hk⟩; refine ⟨_, rfl, ?_⟩; have HO536 := Aside0.mk (Kd.uN ho0 (uR cq13)); have HO539 := Aside0.mk (Kd.uN ho1 (uR cq13)); replace HB := Aside0.mk (hb); replace HI533 := Aside0.mk (hi); (try clear hb); (try clear hk); (try clear hi); (try clear ho0); (try clear ho1); obtain ⟨Ao22, co22, eo22⟩ := Kd.uS HO536.out; subst eo22) | ((with_reducible refine uB (f := 52) rfl ?_); refine uL (some 23) Tryd.func52 #[.pointer (some ⟨g533, 0, none⟩), .int .i64 (t534.length : Int)] ?_; (with_reducible refine (spec_l1Below.calls g533 t530 t540 t541 (t534.length : Int) t542 t543 t544 w _ ?side1 ?side2 A8.out).mono ?_); (case side1 => exact cq24); (case side2 => exact cq13); rintro e w23 ⟨rfl, hi, hb, hk⟩; refine ⟨_, rfl, ?_⟩; replace HO536 := Aside0.mk (Kd.uG (Kd.vB (IsS110.apart (show IsS110 w _ g533 t530 t540 t541 from by repeat (first | (with_reducible first | exact HI533.out | apply IsS110.alloc | apply IsS110.drewN | apply IsS110.drew | apply IsS110.set_1 | apply IsS110.set_2) | exact HI533.out)) (uT HO536.out) (by decide)) hk (fun _ h => h.2)) (fun _ h => h.1)); replace HO539 := Aside0.mk (Kd.uG (Kd.vB (IsS110.apart (show IsS110 w _ g533 t530 t540 t541 from by repeat (first | (with_reducible first | exact HI533.out | apply IsS110.alloc | apply IsS110.drewN | apply IsS110.drew | apply IsS110.set_1 | apply IsS110.set_2) | exact HI533.out)) (uT HO539.out) (by decide)) hk (fun _ h => h.2)) (fun _ h => h.1)); replace HB := Aside0.mk (hb); replace HI533 := Aside0.mk (hi); (try clear hb); (try clear hk); (try clear hi); have p545 : 0 ≤ (t542 : Int) := of_decide_eq_true vC; have q545 : t542 < (t534.length : Int) := of_decide_eq_true vC; obtain ⟨ad545, e545, hx545_0⟩ := Kd.vS (Kd.uY HO536.out).2.2 t542 p545 q545; cases e545; replace p545 := eq_true p545; replace q545 := eq_true q545) | ((with_reducible refine uB (f := 53) rfl ?_); refine uL (some 27) Tryd.func53 #[.pointer (some ⟨g533, 0, none⟩), .int .i64 4] ?_; (with_reducible refine (spec_l1Once.calls g533 t530 t543 t544 4 false t547 t548 w _ ?side1 ?side2 A11.out).mono ?_); (case side1 => exact cq24); (case side2 => exact cq13); rintro e w24 ⟨rfl, hi, hb, hk⟩; refine ⟨_, rfl, ?_⟩; replace HO536 := Aside0.mk (Kd.uG (Kd.vB (IsS110.apart (show IsS110 w _ g533 t530 t543 t544 from by repeat (first | (with_reducible first | exact HI533.out | apply IsS110.alloc | apply IsS110.drewN | apply IsS110.drew | apply IsS110.set_1 | apply IsS110.set_2) | exact HI533.out)) (uT HO536.out) (by decide)) hk (fun _ h => h.2)) (fun _ h => h.1)); replace HO539 := Aside0.mk (Kd.uG (Kd.vB (IsS110.apart (show IsS110 w _ g533 t530 t543 t544 from by repeat (first | (with_reducible first | exact HI533.out | apply IsS110.alloc | apply IsS110.drewN | apply IsS110.drew | apply IsS110.set_1 | apply IsS110.set_2) | exact HI533.out)) (uT HO539.out) (by decide)) hk (fun _ h => h.2)) (fun _ h => h.1)); replace HB := Aside0.mk (hb); replace HI533 := Aside0.mk (hi); (try clear hb); (try clear hk); (try clear hi)))
  go_ret2
  exact ⟨_, cq5, cq105, cq13⟩
 subst c12
 try rw [if_pos rfl] at H
 replace H := Option.bind_eq_some_iff.mp H
 obtain ⟨⟨t549, t550, t551⟩, A130, H⟩ := H
 try dsimp only at H
 have A13 := Aside0.mk A130
 clear A130
 simp only [Option.some.injEq, Prod.mk.injEq] at H
 obtain ⟨rfl, rfl⟩ := H
 go_enter Tryd.func21, Tryd.ntmps21
 go_wp2_with (first | ((with_reducible refine uB (f := 50) rfl ?_); refine uL (some 9) Tryd.func50 #[.slice A0 l0.length c0] ?_; (with_reducible refine (spec_l1New.calls k _ _ l0 t530 t531 t532 w _ ?side1 ?side2 ?side3 A2.out).mono ?_); (case side1 => exact uW); (case side2 => exact HR0.out); (case side3 => exact HC0.out); rintro e w14 ⟨g533, rfl, hi, hb, hb2⟩; refine ⟨_, rfl, ?_⟩; have HI533 := Aside0.mk (hi); replace HB := Aside0.mk (hb); (try clear hb); (try clear hb2); (try clear hi)) | ((with_reducible refine uB (f := 56) rfl ?_); refine uL (some 12) Tryd.func56 #[.pointer (some ⟨g533, 0, none⟩)] ?_; (with_reducible refine (spec_l7Parts.calls k g533 t530 t531 t532 t534 t537 t540 t541 w _ ?side1 ?side2 A3.out).mono ?_); (case side1 => exact cq24); (case side2 => exact cq13); rintro e w15 ⟨v535, v538, rfl, ho0, ho1, hi, hb, hk⟩; refine ⟨_, rfl, ?_⟩; have HO536 := Aside0.mk (Kd.uN ho0 (uR cq13)); have HO539 := Aside0.mk (Kd.uN ho1 (uR cq13)); replace HB := Aside0.mk (hb); replace HI533 := Aside0.mk (hi); (try clear hb); (try clear hk); (try clear hi); (try clear ho0); (try clear ho1); obtain ⟨Ao16, co16, eo16⟩ := Kd.uS HO536.out; subst eo16) | ((with_reducible refine uB (f := 52) rfl ?_); refine uL (some 23) Tryd.func52 #[.pointer (some ⟨g533, 0, none⟩), .int .i64 (t534.length : Int)] ?_; (with_reducible refine (spec_l1Below.calls g533 t530 t540 t541 (t534.length : Int) t542 t543 t544 w _ ?side1 ?side2 A8.out).mono ?_); (case side1 => exact cq24); (case side2 => exact cq13); rintro e w17 ⟨rfl, hi, hb, hk⟩; refine ⟨_, rfl, ?_⟩; replace HO536 := Aside0.mk (Kd.uG (Kd.vB (IsS110.apart (show IsS110 w _ g533 t530 t540 t541 from by repeat (first | (with_reducible first | exact HI533.out | apply IsS110.alloc | apply IsS110.drewN | apply IsS110.drew | apply IsS110.set_1 | apply IsS110.set_2) | exact HI533.out)) (uT HO536.out) (by decide)) hk (fun _ h => h.2)) (fun _ h => h.1)); replace HO539 := Aside0.mk (Kd.uG (Kd.vB (IsS110.apart (show IsS110 w _ g533 t530 t540 t541 from by repeat (first | (with_reducible first | exact HI533.out | apply IsS110.alloc | apply IsS110.drewN | apply IsS110.drew | apply IsS110.set_1 | apply IsS110.set_2) | exact HI533.out)) (uT HO539.out) (by decide)) hk (fun _ h => h.2)) (fun _ h => h.1)); replace HB := Aside0.mk (hb); replace HI533 := Aside0.mk (hi); (try clear hb); (try clear hk); (try clear hi); have p545 : 0 ≤ (t542 : Int) := of_decide_eq_true vC; have q545 : t542 < (t534.length : Int) := of_decide_eq_true vC; obtain ⟨ad545, e545, hx545_0⟩ := Kd.vS (Kd.uY HO536.out).2.2 t542 p545 q545; cases e545; replace p545 := eq_true p545; replace q545 := eq_true q545) | ((with_reducible refine uB (f := 53) rfl ?_); refine uL (some 27) Tryd.func53 #[.pointer (some ⟨g533, 0, none⟩), .int .i64 4] ?_; (with_reducible refine (spec_l1Once.calls g533 t530 t543 t544 4 true t547 t548 w _ ?side1 ?side2 A11.out).mono ?_); (case side1 => exact cq24); (case side2 => exact cq13); rintro e w18 ⟨rfl, hi, hb, hk⟩; refine ⟨_, rfl, ?_⟩; replace HO536 := Aside0.mk (Kd.uG (Kd.vB (IsS110.apart (show IsS110 w _ g533 t530 t543 t544 from by repeat (first | (with_reducible first | exact HI533.out | apply IsS110.alloc | apply IsS110.drewN | apply IsS110.drew | apply IsS110.set_1 | apply IsS110.set_2) | exact HI533.out)) (uT HO536.out) (by decide)) hk (fun _ h => h.2)) (fun _ h => h.1)); replace HO539 := Aside0.mk (Kd.uG (Kd.vB (IsS110.apart (show IsS110 w _ g533 t530 t543 t544 from by repeat (first | (with_reducible first | exact HI533.out | apply IsS110.alloc | apply IsS110.drewN | apply IsS110.drew | apply IsS110.set_1 | apply IsS110.set_2) | exact HI533.out)) (uT HO539.out) (by decide)) hk (fun _ h => h.2)) (fun _ h => h.1)); replace HB := Aside0.mk (hb); replace HI533 := Aside0.mk (hi); (try clear hb); (try clear hk); (try clear hi)) | ((with_reducible refine uB (f := 57) rfl ?_); refine uL (some 30) Tryd.func57 #[.pointer (some ⟨g533, 0, none⟩), .string (rdOf ByteArray.empty t534 t542)] ?_; (with_reducible refine (spec_l1Spoil.calls k g533 t530 t547 t548 (rdOf ByteArray.empty t534 t542) t549 t550 t551 w _ ?side1 ?side2 A13.out).mono ?_); (case side1 => exact cq24); (case side2 => exact cq13); rintro e w19 ⟨rfl, hi, hb, hk⟩; refine ⟨_, rfl, ?_⟩; replace HO536 := Aside0.mk (Kd.uG (Kd.vB (IsS110.apart (show IsS110 w _ g533 t530 t547 t548 from by repeat (first | (with_reducible first | exact HI533.out | apply IsS110.alloc | apply IsS110.drewN | apply IsS110.drew | apply IsS110.set_1 | apply IsS110.set_2) | exact HI533.out)) (uT HO536.out) (by decide)) hk (fun _ h => h.2)) (fun _ h => h.1)); replace HO539 := Aside0.mk (Kd.uG (Kd.vB (IsS110.apart (show IsS110 w _ g533 t530 t547 t548 from by repeat (first | (with_reducible first | exact HI533.out | apply IsS110.alloc | apply IsS110.drewN | apply IsS110.drew | apply IsS110.set_1 | apply IsS110.set_2) | exact HI533.out)) (uT HO539.out) (by decide)) hk (fun _ h => h.2)) (fun _ h => h.1)); replace HB := Aside0.mk (hb); replace HI533 := Aside0.mk (hi); (try clear hb); (try clear hk); (try clear hi)))
 go_ret2
 exact ⟨_, cq5, cq105, cq13⟩

end Go.Proofs.YtcikahnmiiichaaDoor.K
