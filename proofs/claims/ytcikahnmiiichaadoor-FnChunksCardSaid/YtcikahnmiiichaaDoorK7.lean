/- Go functions as Lean functions, and the proof that the code comes to them: written by a program of this session out of the translation. -/
import Derived.Test.YtcikahnmiiichaaDoorK0
import Derived.Test.YtcikahnmiiichaaDoorK1
import Derived.Test.YtcikahnmiiichaaDoorK6
namespace Go.Proofs.YtcikahnmiiichaaDoor.K
open List renaming setIfInBounds_toArray → vZ, set_cons_zero → yA, set_cons_succ → yB
open Go.World renaming block_lt_of_cell? → yF
open Go.Proofs.YtcikahnmiiichaaDoor.Given
open Go.RowKit Go.Proofs.YtcikahnmiiichaaDoorW.PrintWords Go.Proofs.YtcikahnmiiichaaDoorW.PrintLast Go.Proofs.YtcikahnmiiichaaDoorW.PrintMore
attribute [local go_sem] max2_int min2_int max_two min_two vW vV max_four min_four   -- for this text's walks alone
set_option linter.unusedVariables false
set_option linter.unusedSimpArgs false

/-! ### spec_SnapshotText: function 61 -/
def spec_SnapshotText.f (k : Nat) (a0_0 : Int) (a0_1 : Int) (l0_2 : List Int) (l0_3 : List (S97)) : Option (ByteArray) := (spec_l7Good.f k a0_0 a0_1 l0_2 l0_3).bind fun t177 => (if t177 = true then ((spec_FormatInt.f k a0_0).bind fun t178 => (if t178.size + 1 ≤ 9223372036854775807 then ((spec_FormatInt.f k a0_1).bind fun t179 => (if (t178 ++ (⟨#[44]⟩ : ByteArray)).size + t179.size ≤ 9223372036854775807 then (if ((t178 ++ (⟨#[44]⟩ : ByteArray)) ++ t179).size + 1 ≤ 9223372036854775807 then ((spec_FormatMachine.f k l0_2 l0_3).bind fun t180 => (if (((t178 ++ (⟨#[44]⟩ : ByteArray)) ++ t179) ++ (⟨#[44]⟩ : ByteArray)).size + t180.size ≤ 9223372036854775807 then (some ((((t178 ++ (⟨#[44]⟩ : ByteArray)) ++ t179) ++ (⟨#[44]⟩ : ByteArray)) ++ t180)) else (none))) else (none)) else (none))) else (none))) else (some (⟨#[]⟩ : ByteArray)))
theorem spec_SnapshotText.mono : ∀ a0 a1 a2 a3 k, uA (spec_SnapshotText.f k a0 a1 a2 a3) (spec_SnapshotText.f (k + 1) a0 a1 a2 a3) := by
 intro a0 a1 a2 a3 k
 unfold spec_SnapshotText.f
 repeat' first
   | (with_reducible exact spec_FormatInt.mono _ _)
   | (with_reducible exact spec_FormatMachine.mono _ _ _)
   | (with_reducible exact spec_l7Good.mono _ _ _ _ _)
   | (with_reducible exact uA.refl _)
   | (with_reducible exact uA.none _)
   | (with_reducible refine uA.vA ?_ ?_)
   | (with_reducible refine uA.bind ?_ (fun _ => ?_))
   | exact uA.none _
   | refine uA.vA ?_ ?_
   | refine uA.bind ?_ (fun _ => ?_)
def spec_SnapshotText.T3 : Bool × List (List Nat × List Nat) := (true, [([], []), ([0], [0]), ([1], [1]), ([2], [2]), ([], []), ([4], [4]), ([5, 2], [5]), ([3, 6], [3, 6]), ([7], [7]), ([], []), ([9], [9]), ([10, 6], [10]), ([8, 11], [8, 11]), ([12, 11, 0, 1, 2, 3, 4, 5, 6, 7, 8, 9, 10, 11, 12], [12])])
def spec_SnapshotText.B3 : List Nat := [0, 1, 3, 7, 0, 16, 55, 127, 255, 0, 512, 1655, 4095, 8191]
theorem spec_SnapshotText.tab3 : rtab .any (opsOf Tryd.f61 3) = spec_SnapshotText.T3 := by kernel_rfl
theorem spec_SnapshotText.bits3 : waitsOk spec_SnapshotText.T3.2 spec_SnapshotText.B3 = true := by kernel_rfl
set_option maxHeartbeats 8000000 in
set_option maxRecDepth 100000 in
theorem spec_SnapshotText.calls (k : Nat) (a0_0 : Int) (a0_1 : Int) (A0_2 : Option Addr) (c0_2 : Nat) (l0_2 : List Int) (A0_3 : Option Addr) (c0_3 : Nat) (l0_3 : List (S97)) (r : ByteArray) (w : World) (hr0_2 : Kd.C (Kd.int .i64) w A0_2 l0_2.length l0_2) (hc0_2 : l0_2.length ≤ c0_2) (hr0_3 : Kd.C k97 w A0_3 l0_3.length l0_3) (hc0_3 : l0_3.length ≤ c0_3) (h : spec_SnapshotText.f k a0_0 a0_1 l0_2 l0_3 = some r) :
  Calls Tryd.prog 61 #[.agg #[.int .i64 a0_0, .int .i64 a0_1, .slice A0_2 l0_2.length c0_2, .slice A0_3 l0_3.length c0_3]] w fun e w' => e = .returned (.string r) ∧ Below w.heap.size w w' := by
 have hu83 := Tryd.underlying83
 have hu56 := Tryd.underlying56
 have HR0_2 := Aside0.mk hr0_2
 have HC0_2 := Aside0.mk hc0_2
 clear hr0_2 hc0_2
 have HR0_3 := Aside0.mk hr0_3
 have HC0_3 := Aside0.mk hc0_3
 clear hr0_3 hc0_3
 have HB := Aside0.mk (Below.refl w.heap.size w)
 have H : ((spec_l7Good.f k a0_0 a0_1 l0_2 l0_3).bind fun t177 => (if t177 = true then ((spec_FormatInt.f k a0_0).bind fun t178 => (if t178.size + 1 ≤ 9223372036854775807 then ((spec_FormatInt.f k a0_1).bind fun t179 => (if (t178 ++ (⟨#[44]⟩ : ByteArray)).size + t179.size ≤ 9223372036854775807 then (if ((t178 ++ (⟨#[44]⟩ : ByteArray)) ++ t179).size + 1 ≤ 9223372036854775807 then ((spec_FormatMachine.f k l0_2 l0_3).bind fun t180 => (if (((t178 ++ (⟨#[44]⟩ : ByteArray)) ++ t179) ++ (⟨#[44]⟩ : ByteArray)).size + t180.size ≤ 9223372036854775807 then (some ((((t178 ++ (⟨#[44]⟩ : ByteArray)) ++ t179) ++ (⟨#[44]⟩ : ByteArray)) ++ t180)) else (none))) else (none)) else (none))) else (none))) else (some (⟨#[]⟩ : ByteArray)))) = some r := h
 clear h
 replace H := Option.bind_eq_some_iff.mp H
 obtain ⟨t177, A20, H⟩ := H
 try dsimp only at H
 have A2 := Aside0.mk A20
 clear A20
 go_enter Tryd.func61, Tryd.ntmps61
 go_wp2_with (first | ((with_reducible refine uQ (N := 1) rfl ?_); refine bxe 1 #[.int .i64 a0_0, .int .i64 a0_1, .slice A0_2 l0_2.length c0_2, .slice A0_3 l0_3.length c0_3] 83 ?_; intro gb176 hg w18 hbox hb; have BK176 := Aside0.mk (hbox); have GW176 := tGe HB hg; have GE176 := tGe HB hg; replace HB := uH HB hb; clear hb hbox hg; obtain ⟨hcz19_0, hcz19_1, hcz19_2, hcz19_3, hfz19_0, hfz19_1, hfz19_2, hfz19_3⟩ := cz4 BK176; refine ?roundEnd))
 case roundEnd =>
 by_cases c3 : t177 = true
 rotate_left
 ·replace c3 := Bool.eq_false_iff.mpr c3
  subst c3
  try rw [if_neg (show ¬ (false = true) by decide)] at H
  obtain rfl := Option.some.inj H
  go_wp2_with (first | ((with_reducible refine uB (f := 97) rfl ?_); refine uL (some 4) Tryd.func97 #[.agg #[.int .i64 a0_0, .int .i64 a0_1, .slice A0_2 l0_2.length c0_2, .slice A0_3 l0_3.length c0_3]] ?_; (with_reducible refine (spec_l7Good.calls k a0_0 a0_1 _ _ l0_2 _ _ l0_3 false _ ?side1 ?side2 ?side3 ?side4 A2.out).mono ?_); (case side1 => exact cq71); (case side2 => exact HC0_2.out); (case side3 => exact cq72); (case side4 => exact HC0_3.out); rintro e w20 ⟨rfl, hb⟩; refine ⟨_, rfl, ?_⟩; replace BK176 := vI BK176 hb; replace HB := uH HB hb; (try clear hb)))
  go_ret
  exact ⟨cq5, cq2⟩
 subst c3
 try rw [if_pos rfl] at H
 replace H := Option.bind_eq_some_iff.mp H
 obtain ⟨t178, A40, H⟩ := H
 try dsimp only at H
 have A4 := Aside0.mk A40
 clear A40
 by_cases c5 : t178.size + 1 ≤ 9223372036854775807
 rotate_left
 ·rw [if_neg c5] at H
  exact absurd H (by simp)
 rw [if_pos c5] at H
 have c5b0 := eq_true c5
 have c5b1 := decide_eq_true c5
 try have c5b2 : (9223372036854775807 < t178.size + 1) = False := eq_false (Nat.not_lt.2 c5)
 replace H := Option.bind_eq_some_iff.mp H
 obtain ⟨t179, A60, H⟩ := H
 try dsimp only at H
 have A6 := Aside0.mk A60
 clear A60
 by_cases c7 : (t178 ++ (⟨#[44]⟩ : ByteArray)).size + t179.size ≤ 9223372036854775807
 rotate_left
 ·rw [if_neg c7] at H
  exact absurd H (by simp)
 rw [if_pos c7] at H
 have c7b0 := eq_true c7
 have c7b1 := decide_eq_true c7
 try have c7b2 : (9223372036854775807 < (t178 ++ (⟨#[44]⟩ : ByteArray)).size + t179.size) = False := eq_false (Nat.not_lt.2 c7)
 have c7b3 : (9223372036854775807 < t178.size + 1 + t179.size) = False := eq_false (Nat.not_lt.2 (by have z_ := c7; (repeat rw [ByteArray.size_append] at z_); exact z_))
 by_cases c8 : ((t178 ++ (⟨#[44]⟩ : ByteArray)) ++ t179).size + 1 ≤ 9223372036854775807
 rotate_left
 ·rw [if_neg c8] at H
  exact absurd H (by simp)
 rw [if_pos c8] at H
 have c8b0 := eq_true c8
 have c8b1 := decide_eq_true c8
 try have c8b2 : (9223372036854775807 < ((t178 ++ (⟨#[44]⟩ : ByteArray)) ++ t179).size + 1) = False := eq_false (Nat.not_lt.2 c8)
 have c8b3 : (9223372036854775807 < t178.size + 1 + t179.size + 1) = False := eq_false (Nat.not_lt.2 (by have z_ := c8; (repeat rw [ByteArray.size_append] at z_); exact z_))
 replace H := Option.bind_eq_some_iff.mp H
 obtain ⟨t180, A90, H⟩ := H
 try dsimp only at H
 have A9 := Aside0.mk A90
 clear A90
 by_cases c10 : (((t178 ++ (⟨#[44]⟩ : ByteArray)) ++ t179) ++ (⟨#[44]⟩ : ByteArray)).size + t180.size ≤ 9223372036854775807
 rotate_left
 ·rw [if_neg c10] at H
  exact absurd H (by simp)
 rw [if_pos c10] at H
 have c10b0 := eq_true c10
 have c10b1 := decide_eq_true c10
 try have c10b2 : (9223372036854775807 < (((t178 ++ (⟨#[44]⟩ : ByteArray)) ++ t179) ++ (⟨#[44]⟩ : ByteArray)).size + t180.size) = False := eq_false (Nat.not_lt.2 c10)
 have c10b3 : (9223372036854775807 < t178.size + 1 + t179.size + 1 + t180.size) = False := eq_false (Nat.not_lt.2 (by have z_ := c10; (repeat rw [ByteArray.size_append] at z_); exact z_))
 obtain rfl := Option.some.inj H
 try go_wp2_with (first | ((with_reducible refine uB (f := 97) rfl ?_); refine uL (some 4) Tryd.func97 #[.agg #[.int .i64 a0_0, .int .i64 a0_1, .slice A0_2 l0_2.length c0_2, .slice A0_3 l0_3.length c0_3]] ?_; (with_reducible refine (spec_l7Good.calls k a0_0 a0_1 _ _ l0_2 _ _ l0_3 true _ ?side1 ?side2 ?side3 ?side4 A2.out).mono ?_); (case side1 => exact cq71); (case side2 => exact HC0_2.out); (case side3 => exact cq72); (case side4 => exact HC0_3.out); rintro e w13 ⟨rfl, hb⟩; refine ⟨_, rfl, ?_⟩; replace BK176 := vI BK176 hb; replace HB := uH HB hb; (try clear hb)))
 replace BK176 := Aside0.mk (uE BK176.out)
 replace HB := Aside0.mk (vL HB.out)
 refine start_ (n := 14) (S := fun w' => w'.cell? ⟨gb176, 0, none⟩ = some (.int .i64 a0_0) ∧ w'.cell? ⟨gb176, 1, none⟩ = some (.int .i64 a0_1) ∧ w'.cell? ⟨gb176, 2, none⟩ = some (.slice A0_2 l0_2.length c0_2) ∧ w'.cell? ⟨gb176, 3, none⟩ = some (.slice A0_3 l0_3.length c0_3)) (ds := []) tb25 (by kernel_rfl) rfl rfl ⟨(uC BK176.out 0).trans rfl, (uC BK176.out 1).trans rfl, (uC BK176.out 2).trans rfl, (uC BK176.out 3).trans rfl⟩ (fun hHeld => ?_); refine with_tabW spec_SnapshotText.tab3 spec_SnapshotText.bits3 (fun HT_ HW_ => ?_)
 generalize w13.drew = w14 at BK176 HB hHeld ⊢
 refine uM 0 (some 6) tb26 ?_
 refine uM 4 (some 10) #[true, false, false, false, true, false, false, false, false, false, false, false, false, false] ?_
 refine uM 9 (some 15) #[true, false, false, false, true, false, false, false, false, true, false, false, false, false] ?_
 refine takeT 1 (some 7) #[true, true, false, false, true, false, false, false, false, true, false, false, false, false] ?_
 refine takeT 5 (some 11) #[true, true, false, false, true, true, false, false, false, true, false, false, false, false] ?_
 refine takeT 10 (some 16) #[true, true, false, false, true, true, false, false, false, true, true, false, false, false] ?_
 refine oneT 2 (some 8) #[true, true, true, false, true, true, false, false, false, true, true, false, false, false] (fun K hK => ?_)
 refine goesT Tryd.func90 #[.int .i64 a0_0] ?_
 with_reducible refine (spec_FormatInt.calls k a0_0 t178 _ A4.out).mono ?_
 rintro e w15 ⟨rfl, hb⟩
 refine ⟨_, rfl, ?_⟩
 replace BK176 := vI BK176 hb
 replace HB := uH HB hb
 (try clear hb)
 refine hK.out _ _ ⟨(uC BK176.out 0).trans rfl, (uC BK176.out 1).trans rfl, (uC BK176.out 2).trans rfl, (uC BK176.out 3).trans rfl⟩ (fun hHeld => ?_)
 clear hK K
 refine vH (some 8) ?_
 refine uM 3 (some 9) #[true, true, true, true, true, true, false, false, false, true, true, false, false, false] ?_
 refine oneT 6 (some 12) #[true, true, true, true, true, true, true, false, false, true, true, false, false, false] (fun K hK => ?_)
 refine goesT Tryd.func90 #[.int .i64 a0_1] ?_
 with_reducible refine (spec_FormatInt.calls k a0_1 t179 _ A6.out).mono ?_
 rintro e w16 ⟨rfl, hb⟩
 refine ⟨_, rfl, ?_⟩
 replace BK176 := vI BK176 hb
 replace HB := uH HB hb
 (try clear hb)
 refine hK.out _ _ ⟨(uC BK176.out 0).trans rfl, (uC BK176.out 1).trans rfl, (uC BK176.out 2).trans rfl, (uC BK176.out 3).trans rfl⟩ (fun hHeld => ?_)
 clear hK K
 refine vH (some 12) ?_
 refine uM 7 (some 13) #[true, true, true, true, true, true, true, true, false, true, true, false, false, false] ?_
 refine uM 8 (some 14) #[true, true, true, true, true, true, true, true, true, true, true, false, false, false] ?_
 refine oneT 11 (some 17) tb32 (fun K hK => ?_)
 refine goesT Tryd.func75 #[.agg #[.slice A0_2 l0_2.length c0_2, .slice A0_3 l0_3.length c0_3]] ?_
 with_reducible refine (spec_FormatMachine.calls k _ _ l0_2 _ _ l0_3 t180 _ ?side1 ?side2 ?side3 ?side4 A9.out).mono ?_
 (case side1 => exact cq71)
 (case side2 => exact HC0_2.out)
 (case side3 => exact cq72)
 (case side4 => exact HC0_3.out)
 rintro e w17 ⟨rfl, hb⟩
 refine ⟨_, rfl, ?_⟩
 replace BK176 := vI BK176 hb
 replace HB := uH HB hb
 (try clear hb)
 refine hK.out _ _ ⟨(uC BK176.out 0).trans rfl, (uC BK176.out 1).trans rfl, (uC BK176.out 2).trans rfl, (uC BK176.out 3).trans rfl⟩ (fun hHeld => ?_)
 clear hK K
 refine vH (some 17) ?_
 refine uM 12 (some 18) tb33 ?_
 refine uM 13 (some 2) tb36 ?_
 refine done_ (done_of HT_.out (by kernel_rfl)) ?_
 try go_wp2
 go_ret
 exact ⟨cq5, cq2⟩

/-! ### spec_l1PickInt: function 54 -/
def spec_l1PickInt.f (s0_0 : List Int) (s0_1 : Int) (s0_2 : Int) (l1 : List Int) : Option (Int × Int × Int) := (spec_l1Below.f s0_0 s0_1 s0_2 (l1.length : Int)).bind fun bt181 => (if 0 ≤ bt181.1 then (if bt181.1 < (l1.length : Int) then (some (rd l1 bt181.1, bt181.2.1, bt181.2.2)) else (none)) else (none))
set_option maxHeartbeats 8000000 in
set_option maxRecDepth 100000 in
theorem spec_l1PickInt.calls (g : Nat) (s0_0 : List Int) (s0_1 : Int) (s0_2 : Int) (A1 : Option Addr) (c1 : Nat) (l1 : List Int) (r1 : Int) (r2 : Int) (r3 : Int) (w0 w : World) (hI : IsS110 w0 w g s0_0 s0_1 s0_2) (hB : Below w0.heap.size w0 w) (hr1 : Kd.C (Kd.int .i64) w A1 l1.length l1) (hc1 : l1.length ≤ c1) (hf1 : ∀ ad, A1 = some ad → 0 < l1.length → ad.block ≠ g) (h : spec_l1PickInt.f s0_0 s0_1 s0_2 l1 = some (r1, r2, r3)) :
  Calls Tryd.prog 54 #[.pointer (some ⟨g, 0, none⟩), .slice A1 l1.length c1] w fun e w' => e = .returned (.int .i64 r1) ∧ IsS110 w0 w' g s0_0 r2 r3 ∧ Below w0.heap.size w0 w' ∧ uV w w' g none := by
 have HR1 := Aside0.mk hr1
 have HC1 := Aside0.mk hc1
 clear hr1 hc1
 have HI0 := Aside0.mk hI
 have HK := Aside0.mk (uV.refl w g none)
 have HL := Aside0.mk hB.size
 clear hI
 have HW0 := Aside0.mk hB.size
 have HB := Aside0.mk hB
 clear hB
 have H : ((spec_l1Below.f s0_0 s0_1 s0_2 (l1.length : Int)).bind fun bt181 => (if 0 ≤ bt181.1 then (if bt181.1 < (l1.length : Int) then (some (rd l1 bt181.1, bt181.2.1, bt181.2.2)) else (none)) else (none))) = some (r1, r2, r3) := h
 clear h
 replace H := Option.bind_eq_some_iff.mp H
 obtain ⟨⟨t181, t182, t183⟩, A30, H⟩ := H
 try dsimp only at H
 have A3 := Aside0.mk A30
 clear A30
 obtain ⟨c4b0, H⟩ := ifD H
 obtain ⟨c5b0, H⟩ := ifD H
 simp only [Option.some.injEq, Prod.mk.injEq] at H
 obtain ⟨rfl, rfl, rfl⟩ := H
 go_enter Tryd.func54, Tryd.ntmps54
 go_wp2_with (first | ((with_reducible refine uB (f := 52) rfl ?_); refine uL (some 9) Tryd.func52 #[.pointer (some ⟨g, 0, none⟩), .int .i64 (l1.length : Int)] ?_; (with_reducible refine (spec_l1Below.calls g s0_0 s0_1 s0_2 (l1.length : Int) t181 t182 t183 w0 _ ?side1 ?side2 A3.out).mono ?_); (case side1 => exact cq3); (case side2 => exact cq6); rintro e w6 ⟨rfl, hi, hb, hk⟩; refine ⟨_, rfl, ?_⟩; replace HK := uX HK hk; replace HB := Aside0.mk (hb); replace HI0 := Aside0.mk (hi); (try clear hb); (try clear hk); (try clear hi); have p184 : 0 ≤ (t181 : Int) := of_decide_eq_true vC; have q184 : t181 < (l1.length : Int) := of_decide_eq_true vC; obtain ⟨ad184, e184, hx184_0⟩ := Kd.at_int HR1.out t181 p184 q184; cases e184; replace hx184_0 := keep_cell HK.out hx184_0 (by first | (rw [add_block]; exact hf1 _ rfl (by omega)) | exact hf1 _ rfl (by omega) | exact hf1 ad184 rfl (by omega)); replace p184 := eq_true p184; replace q184 := eq_true q184))
 go_ret
 exact ⟨cq5, cq3, cq6, cq11⟩

/-! ### spec_l3Op: function 85 -/
def spec_l3Op.f (s0_0 : List Int) (s0_1 : Int) (s0_2 : Int) : Option (Int × Int × Int × Int × Int × Int × Int × Int) := (spec_l1Below.f s0_0 s0_1 s0_2 3).bind fun bt186 => ((spec_l1Below.f s0_0 bt186.2.1 bt186.2.2 5).bind fun bt189 => ((spec_l1Below.f s0_0 bt189.2.1 bt189.2.2 3).bind fun bt192 => ((spec_l1Below.f s0_0 bt192.2.1 bt192.2.2 10).bind fun bt195 => ((spec_l1Once.f s0_0 bt195.2.1 bt195.2.2 3).bind fun bt199 => (if bt199.1 = true then ((spec_l1PickInt.f s0_0 bt199.2.1 bt199.2.2 (([0, 0, 1, 5, 9] : List Int))).bind fun bt205 => (some (bt186.1, wrap64 (1 + bt189.1), 2, bt192.1, bt205.1, bt195.1, bt205.2.1, bt205.2.2))) else (some (bt186.1, wrap64 (1 + bt189.1), 1, bt192.1, 0, bt195.1, bt199.2.1, bt199.2.2)))))))
set_option maxHeartbeats 8000000 in
set_option maxRecDepth 100000 in
theorem spec_l3Op.calls (g : Nat) (s0_0 : List Int) (s0_1 : Int) (s0_2 : Int) (r1 : Int) (r2 : Int) (r3 : Int) (r4 : Int) (r5 : Int) (r6 : Int) (r7 : Int) (r8 : Int) (w0 w : World) (hI : IsS110 w0 w g s0_0 s0_1 s0_2) (hB : Below w0.heap.size w0 w) (h : spec_l3Op.f s0_0 s0_1 s0_2 = some (r1, r2, r3, r4, r5, r6, r7, r8)) :
  Calls Tryd.prog 85 #[.pointer (some ⟨g, 0, none⟩)] w fun e w' => e = .returned (.agg #[.int .i64 r1, .int .i64 r2, .int .i64 r3, .int .i64 r4, .int .i64 r5, .int .i64 r6]) ∧ IsS110 w0 w' g s0_0 r7 r8 ∧ Below w0.heap.size w0 w' ∧ uV w w' g none := by
 have hu64 := Tryd.underlying64
 have HI0 := Aside0.mk hI
 have HK := Aside0.mk (uV.refl w g none)
 have HL := Aside0.mk hB.size
 clear hI
 have HW0 := Aside0.mk hB.size
 have HB := Aside0.mk hB
 clear hB
 have H : ((spec_l1Below.f s0_0 s0_1 s0_2 3).bind fun bt186 => ((spec_l1Below.f s0_0 bt186.2.1 bt186.2.2 5).bind fun bt189 => ((spec_l1Below.f s0_0 bt189.2.1 bt189.2.2 3).bind fun bt192 => ((spec_l1Below.f s0_0 bt192.2.1 bt192.2.2 10).bind fun bt195 => ((spec_l1Once.f s0_0 bt195.2.1 bt195.2.2 3).bind fun bt199 => (if bt199.1 = true then ((spec_l1PickInt.f s0_0 bt199.2.1 bt199.2.2 (([0, 0, 1, 5, 9] : List Int))).bind fun bt205 => (some (bt186.1, wrap64 (1 + bt189.1), 2, bt192.1, bt205.1, bt195.1, bt205.2.1, bt205.2.2))) else (some (bt186.1, wrap64 (1 + bt189.1), 1, bt192.1, 0, bt195.1, bt199.2.1, bt199.2.2)))))))) = some (r1, r2, r3, r4, r5, r6, r7, r8) := h
 clear h
 replace H := Option.bind_eq_some_iff.mp H
 obtain ⟨⟨t186, t187, t188⟩, A20, H⟩ := H
 try dsimp only at H
 have A2 := Aside0.mk A20
 clear A20
 replace H := Option.bind_eq_some_iff.mp H
 obtain ⟨⟨t189, t190, t191⟩, A30, H⟩ := H
 try dsimp only at H
 have A3 := Aside0.mk A30
 clear A30
 replace H := Option.bind_eq_some_iff.mp H
 obtain ⟨⟨t192, t193, t194⟩, A40, H⟩ := H
 try dsimp only at H
 have A4 := Aside0.mk A40
 clear A40
 replace H := Option.bind_eq_some_iff.mp H
 obtain ⟨⟨t195, t196, t197⟩, A50, H⟩ := H
 try dsimp only at H
 have A5 := Aside0.mk A50
 clear A50
 replace H := Option.bind_eq_some_iff.mp H
 obtain ⟨⟨t199, t200, t201⟩, A60, H⟩ := H
 try dsimp only at H
 have A6 := Aside0.mk A60
 clear A60
 go_enter Tryd.func85, Tryd.ntmps85
 go_wp2_with (first | ((with_reducible refine uQ (N := 2) rfl ?_); refine bxe 2 #[.int .i64 0, .int .i64 0, .int .i64 0, .int .i64 0, .int .i64 0, .int .i64 0] 64 ?_; intro gb185 hg w27 hbox hb; have BK185 := Aside0.mk (hbox); have GW185 := tKGe HK hg; have GE185 := tKW HW0 HK hg; have NB0_185 := Aside0.mk ((by rw [hg]; exact Nat.ne_of_lt (IsS110.lt (show IsS110 w0 _ g s0_0 s0_1 s0_2 from by repeat (first | (with_reducible first | exact HI0.out | apply IsS110.alloc | apply IsS110.drewN | apply IsS110.drew | apply IsS110.set_1 | apply IsS110.set_2) | exact HI0.out))) : g ≠ gb185)); have NB185_0 := Aside0.mk ((by rw [hg]; exact Nat.ne_of_gt (IsS110.lt (show IsS110 w0 _ g s0_0 s0_1 s0_2 from by repeat (first | (with_reducible first | exact HI0.out | apply IsS110.alloc | apply IsS110.drewN | apply IsS110.drew | apply IsS110.set_1 | apply IsS110.set_2) | exact HI0.out))) : gb185 ≠ g)); replace HI0 := Aside0.mk (IsS110.below cq3 hb); replace HK := uX HK (uV.of_below hb g none); replace HB := tBel1 HB hb; clear hb hbox hg; refine ?roundEnd))
 case roundEnd =>
 by_cases c7 : t199 = true
 rotate_left
 ·replace c7 := Bool.eq_false_iff.mpr c7
  subst c7
  try rw [if_neg (show ¬ (false = true) by decide)] at H
  simp only [Option.some.injEq, Prod.mk.injEq] at H
  obtain ⟨rfl, rfl, rfl, rfl, rfl, rfl, rfl, rfl⟩ := H
  go_wp2_with (first | ((with_reducible refine uB (f := 52) rfl ?_); refine uL (some 5) Tryd.func52 #[.pointer (some ⟨g, 0, none⟩), .int .i64 3] ?_; (with_reducible refine (spec_l1Below.calls g s0_0 s0_1 s0_2 3 t186 t187 t188 w0 _ ?side1 ?side2 A2.out).mono ?_); (case side1 => exact cq17); (case side2 => exact cq1); rintro e w28 ⟨rfl, hi, hb, hk⟩; refine ⟨_, rfl, ?_⟩; replace BK185 := tKBlk BK185 hk NB185_0; replace HK := uX HK hk; replace HB := Aside0.mk (hb); replace HI0 := Aside0.mk (hi); (try clear hb); (try clear hk); (try clear hi)) | ((with_reducible refine uB (f := 52) rfl ?_); refine uL (some 7) Tryd.func52 #[.pointer (some ⟨g, 0, none⟩), .int .i64 5] ?_; (with_reducible refine (spec_l1Below.calls g s0_0 t187 t188 5 t189 t190 t191 w0 _ ?side1 ?side2 A3.out).mono ?_); (case side1 => exact cq17); (case side2 => exact cq1); rintro e w29 ⟨rfl, hi, hb, hk⟩; refine ⟨_, rfl, ?_⟩; replace BK185 := tKBlk BK185 hk NB185_0; replace HK := uX HK hk; replace HB := Aside0.mk (hb); replace HI0 := Aside0.mk (hi); (try clear hb); (try clear hk); (try clear hi)) | ((with_reducible refine uB (f := 52) rfl ?_); refine uL (some 10) Tryd.func52 #[.pointer (some ⟨g, 0, none⟩), .int .i64 3] ?_; (with_reducible refine (spec_l1Below.calls g s0_0 t190 t191 3 t192 t193 t194 w0 _ ?side1 ?side2 A4.out).mono ?_); (case side1 => exact cq17); (case side2 => exact cq1); rintro e w30 ⟨rfl, hi, hb, hk⟩; refine ⟨_, rfl, ?_⟩; replace BK185 := tKBlk BK185 hk NB185_0; replace HK := uX HK hk; replace HB := Aside0.mk (hb); replace HI0 := Aside0.mk (hi); (try clear hb); (try clear hk); (try clear hi)) | ((with_reducible refine uB (f := 52) rfl ?_); refine uL (some 12) Tryd.func52 #[.pointer (some ⟨g, 0, none⟩), .int .i64 10] ?_; (with_reducible refine (spec_l1Below.calls g s0_0 t193 t194 10 t195 t196 t197 w0 _ ?side1 ?side2 A5.out).mono ?_); (case side1 => exact cq17); (case side2 => exact cq1); rintro e w31 ⟨rfl, hi, hb, hk⟩; refine ⟨_, rfl, ?_⟩; replace BK185 := tKBlk BK185 hk NB185_0; replace HK := uX HK hk; replace HB := Aside0.mk (hb); replace HI0 := Aside0.mk (hi); (try clear hb); (try clear hk); (try clear hi)) | ((with_reducible refine uQ (N := 3) rfl ?_); refine bxe 3 #[.int .i64 0, .int .i64 0, .int .i64 0, .int .i64 0, .int .i64 0, .int .i64 0] 64 ?_; intro gb198 hg w32 hbox hb; have BK198 := Aside0.mk (hbox); have GW198 := tKGe HK hg; have GE198 := tKW HW0 HK hg; have NB185_198 := tNl BK185 hg; have NB198_185 := tNg BK185 hg; have NB0_198 := Aside0.mk ((by rw [hg]; exact Nat.ne_of_lt (IsS110.lt (show IsS110 w0 _ g s0_0 t196 t197 from by repeat (first | (with_reducible first | exact HI0.out | apply IsS110.alloc | apply IsS110.drewN | apply IsS110.drew | apply IsS110.set_1 | apply IsS110.set_2 | refine IsS110.far ?_ NB0_185.out _) | exact HI0.out))) : g ≠ gb198)); have NB198_0 := Aside0.mk ((by rw [hg]; exact Nat.ne_of_gt (IsS110.lt (show IsS110 w0 _ g s0_0 t196 t197 from by repeat (first | (with_reducible first | exact HI0.out | apply IsS110.alloc | apply IsS110.drewN | apply IsS110.drew | apply IsS110.set_1 | apply IsS110.set_2 | refine IsS110.far ?_ NB0_185.out _) | exact HI0.out))) : gb198 ≠ g)); replace HI0 := Aside0.mk (IsS110.below cq17 hb); replace BK185 := vI BK185 hb; replace HK := uX HK (uV.of_below hb g none); replace HB := tBel1 HB hb; clear hb hbox hg; have hnb33 := NB198_185.out; have hnc33 := NB185_198.out; have hnb34 := NB198_0.out; have hnc34 := NB0_198.out; obtain ⟨hcz35_0, hcz35_1, hcz35_2, hcz35_3, hcz35_4, hcz35_5, hfz35_0, hfz35_1, hfz35_2, hfz35_3, hfz35_4, hfz35_5⟩ := cz6 BK198) | ((with_reducible refine uB (f := 53) rfl ?_); refine uL (some 15) Tryd.func53 #[.pointer (some ⟨g, 0, none⟩), .int .i64 3] ?_; (with_reducible refine (spec_l1Once.calls g s0_0 t196 t197 3 false t200 t201 w0 _ ?side1 ?side2 A6.out).mono ?_); (case side1 => exact cq26); (case side2 => exact cq1); rintro e w36 ⟨rfl, hi, hb, hk⟩; refine ⟨_, rfl, ?_⟩; replace BK185 := tKBlkF BK185 hk NB185_0; replace BK198 := tKBlkP BK198 #[.int .i64 t186, .int .i64 (wrap64 (1 + t189)), .int .i64 1, .int .i64 t192, .int .i64 0, .int .i64 t195] hk NB198_0; replace HK := uX HK hk; replace HB := Aside0.mk (hb); replace HI0 := Aside0.mk (hi); (try clear hb); (try clear hk); (try clear hi); obtain ⟨hcz37_0, hcz37_1, hcz37_2, hcz37_3, hcz37_4, hcz37_5, hfz37_0, hfz37_1, hfz37_2, hfz37_3, hfz37_4, hfz37_5⟩ := cz6 BK198; have hnb38 := NB185_0.out; have hnc38 := NB0_185.out; obtain ⟨hcz39_0, hcz39_1, hcz39_2, hcz39_3, hcz39_4, hcz39_5, hfz39_0, hfz39_1, hfz39_2, hfz39_3, hfz39_4, hfz39_5⟩ := cz6 BK185))
  refine bodyPost_ret (results_cell_row rfl _ _ gb185 64 #[.int .i64 t186, .int .i64 (wrap64 (1 + t189)), .int .i64 1, .int .i64 t192, .int .i64 0, .int .i64 t195] (0, 0) _ rfl (by (with_reducible repeat (first | refine uF ?_ _ | refine uE ?_ | refine uD ?_ _)); refine uZ (cs := #[.int .i64 t186, .int .i64 (wrap64 (1 + t189)), .int .i64 1, .int .i64 t192, .int .i64 0, .int .i64 0]) ?_ 5 _ rfl; (with_reducible repeat (first | refine uF ?_ _ | refine uE ?_ | refine uD ?_ _)); refine uZ (cs := #[.int .i64 t186, .int .i64 (wrap64 (1 + t189)), .int .i64 1, .int .i64 t192, .int .i64 0, .int .i64 0]) ?_ 4 _ rfl; (with_reducible repeat (first | refine uF ?_ _ | refine uE ?_ | refine uD ?_ _)); refine uZ (cs := #[.int .i64 t186, .int .i64 (wrap64 (1 + t189)), .int .i64 1, .int .i64 0, .int .i64 0, .int .i64 0]) ?_ 3 _ rfl; (with_reducible repeat (first | refine uF ?_ _ | refine uE ?_ | refine uD ?_ _)); refine uZ (cs := #[.int .i64 t186, .int .i64 (wrap64 (1 + t189)), .int .i64 0, .int .i64 0, .int .i64 0, .int .i64 0]) ?_ 2 _ rfl; (with_reducible repeat (first | refine uF ?_ _ | refine uE ?_ | refine uD ?_ _)); refine uZ (cs := #[.int .i64 t186, .int .i64 0, .int .i64 0, .int .i64 0, .int .i64 0, .int .i64 0]) ?_ 1 _ rfl; (with_reducible repeat (first | refine uF ?_ _ | refine uE ?_ | refine uD ?_ _)); refine uZ (cs := #[.int .i64 0, .int .i64 0, .int .i64 0, .int .i64 0, .int .i64 0, .int .i64 0]) ?_ 0 _ rfl; (with_reducible repeat (first | refine uF ?_ _ | refine uE ?_ | refine uD ?_ _)); exact BK185.out) Tryd.underlying64 rfl (by kernel_rfl)) rfl ?_
  exact ⟨cq5, cq26, cq1, cq4⟩
 subst c7
 try rw [if_pos rfl] at H
 obtain ⟨y202, hy202⟩ : ∃ y_ : List Int, y_ = (([0, 0, 1, 5, 9] : List Int)) := ⟨_, rfl⟩
 replace H : ((spec_l1PickInt.f s0_0 t200 t201 y202).bind fun bt205 => (some (t186, wrap64 (1 + t189), 2, t192, bt205.1, t195, bt205.2.1, bt205.2.2))) = some (r1, r2, r3, r4, r5, r6, r7, r8) := rpl hy202 H
 have Ny202 := Aside0.mk hy202
 clear hy202
 replace H := Option.bind_eq_some_iff.mp H
 obtain ⟨⟨t205, t206, t207⟩, A80, H⟩ := H
 try dsimp only at H
 have A8 := Aside0.mk A80
 clear A80
 simp only [Option.some.injEq, Prod.mk.injEq] at H
 obtain ⟨rfl, rfl, rfl, rfl, rfl, rfl, rfl, rfl⟩ := H
 go_wp2_with (first | ((with_reducible refine uB (f := 52) rfl ?_); refine uL (some 5) Tryd.func52 #[.pointer (some ⟨g, 0, none⟩), .int .i64 3] ?_; (with_reducible refine (spec_l1Below.calls g s0_0 s0_1 s0_2 3 t186 t187 t188 w0 _ ?side1 ?side2 A2.out).mono ?_); (case side1 => exact cq17); (case side2 => exact cq1); rintro e w10 ⟨rfl, hi, hb, hk⟩; refine ⟨_, rfl, ?_⟩; replace BK185 := tKBlk BK185 hk NB185_0; replace HK := uX HK hk; replace HB := Aside0.mk (hb); replace HI0 := Aside0.mk (hi); (try clear hb); (try clear hk); (try clear hi)) | ((with_reducible refine uB (f := 52) rfl ?_); refine uL (some 7) Tryd.func52 #[.pointer (some ⟨g, 0, none⟩), .int .i64 5] ?_; (with_reducible refine (spec_l1Below.calls g s0_0 t187 t188 5 t189 t190 t191 w0 _ ?side1 ?side2 A3.out).mono ?_); (case side1 => exact cq17); (case side2 => exact cq1); rintro e w11 ⟨rfl, hi, hb, hk⟩; refine ⟨_, rfl, ?_⟩; replace BK185 := tKBlk BK185 hk NB185_0; replace HK := uX HK hk; replace HB := Aside0.mk (hb); replace HI0 := Aside0.mk (hi); (try clear hb); (try clear hk); (try clear hi)) | ((with_reducible refine uB (f := 52) rfl ?_); refine uL (some 10) Tryd.func52 #[.pointer (some ⟨g, 0, none⟩), .int .i64 3] ?_; (with_reducible refine (spec_l1Below.calls g s0_0 t190 t191 3 t192 t193 t194 w0 _ ?side1 ?side2 A4.out).mono ?_); (case side1 => exact cq17); (case side2 => exact cq1); rintro e w12 ⟨rfl, hi, hb, hk⟩; refine ⟨_, rfl, ?_⟩; replace BK185 := tKBlk BK185 hk NB185_0; replace HK := uX HK hk; replace HB := Aside0.mk (hb); replace HI0 := Aside0.mk (hi); (try clear hb); (try clear hk); (try clear hi)) | ((with_reducible refine uB (f := 52) rfl ?_); refine uL (some 12) Tryd.func52 #[.pointer (some ⟨g, 0, none⟩), .int .i64 10] ?_; (with_reducible refine (spec_l1Below.calls g s0_0 t193 t194 10 t195 t196 t197 w0 _ ?side1 ?side2 A5.out).mono ?_); (case side1 => exact cq17); (case side2 => exact cq1); rintro e w13 ⟨rfl, hi, hb, hk⟩; refine ⟨_, rfl, ?_⟩; replace BK185 := tKBlk BK185 hk NB185_0; replace HK := uX HK hk; replace HB := Aside0.mk (hb); replace HI0 := Aside0.mk (hi); (try clear hb); (try clear hk); (try clear hi)) | ((with_reducible refine uQ (N := 3) rfl ?_); refine bxe 3 #[.int .i64 0, .int .i64 0, .int .i64 0, .int .i64 0, .int .i64 0, .int .i64 0] 64 ?_; intro gb198 hg w14 hbox hb; have BK198 := Aside0.mk (hbox); have GW198 := tKGe HK hg; have GE198 := tKW HW0 HK hg; have NB185_198 := tNl BK185 hg; have NB198_185 := tNg BK185 hg; have NB0_198 := Aside0.mk ((by rw [hg]; exact Nat.ne_of_lt (IsS110.lt (show IsS110 w0 _ g s0_0 t196 t197 from by repeat (first | (with_reducible first | exact HI0.out | apply IsS110.alloc | apply IsS110.drewN | apply IsS110.drew | apply IsS110.set_1 | apply IsS110.set_2 | refine IsS110.far ?_ NB0_185.out _) | exact HI0.out))) : g ≠ gb198)); have NB198_0 := Aside0.mk ((by rw [hg]; exact Nat.ne_of_gt (IsS110.lt (show IsS110 w0 _ g s0_0 t196 t197 from by repeat (first | (with_reducible first | exact HI0.out | apply IsS110.alloc | apply IsS110.drewN | apply IsS110.drew | apply IsS110.set_1 | apply IsS110.set_2 | refine IsS110.far ?_ NB0_185.out _) | exact HI0.out))) : gb198 ≠ g)); replace HI0 := Aside0.mk (IsS110.below cq17 hb); replace BK185 := vI BK185 hb; replace HK := uX HK (uV.of_below hb g none); replace HB := tBel1 HB hb; clear hb hbox hg; have hnb15 := NB198_185.out; have hnc15 := NB185_198.out; have hnb16 := NB198_0.out; have hnc16 := NB0_198.out; obtain ⟨hcz17_0, hcz17_1, hcz17_2, hcz17_3, hcz17_4, hcz17_5, hfz17_0, hfz17_1, hfz17_2, hfz17_3, hfz17_4, hfz17_5⟩ := cz6 BK198) | ((with_reducible refine uB (f := 53) rfl ?_); refine uL (some 15) Tryd.func53 #[.pointer (some ⟨g, 0, none⟩), .int .i64 3] ?_; (with_reducible refine (spec_l1Once.calls g s0_0 t196 t197 3 true t200 t201 w0 _ ?side1 ?side2 A6.out).mono ?_); (case side1 => exact cq26); (case side2 => exact cq1); rintro e w18 ⟨rfl, hi, hb, hk⟩; refine ⟨_, rfl, ?_⟩; replace BK185 := tKBlkF BK185 hk NB185_0; replace BK198 := tKBlkP BK198 #[.int .i64 t186, .int .i64 (wrap64 (1 + t189)), .int .i64 1, .int .i64 t192, .int .i64 0, .int .i64 t195] hk NB198_0; replace HK := uX HK hk; replace HB := Aside0.mk (hb); replace HI0 := Aside0.mk (hi); (try clear hb); (try clear hk); (try clear hi); obtain ⟨hcz19_0, hcz19_1, hcz19_2, hcz19_3, hcz19_4, hcz19_5, hfz19_0, hfz19_1, hfz19_2, hfz19_3, hfz19_4, hfz19_5⟩ := cz6 BK198) | ((with_reducible refine uQ (N := 18) rfl ?_); refine Kd.R_lit (Kd.int .i64) _ 3 ?hg (N := 18) ?hd (xs := ([0, 0, 1, 5, 9] : List Int)) (inner := [.int .i64 0, .int .i64 0, .int .i64 1, .int .i64 5, .int .i64 9]) (ok := fun _ => True) (okp := fun _ => True) ?hr ?hp (fun _ hk => hk) trivial (Below.refl _ _) (Nat.le_refl _) (by simp) ?_; (case hd => rfl); (case hg => rfl); (case hr => first | (go_simp; done) | (go_simp; rfl)); (case hp => exact (Reps.one (show Kd.M (Kd.int .i64) _ _ _ 0 [.int .i64 0] from rfl) (Reps.one (show Kd.M (Kd.int .i64) _ _ _ 0 [.int .i64 0] from rfl) (Reps.one (show Kd.M (Kd.int .i64) _ _ _ 1 [.int .i64 1] from rfl) (Reps.one (show Kd.M (Kd.int .i64) _ _ _ 5 [.int .i64 5] from rfl) (Reps.one (show Kd.M (Kd.int .i64) _ _ _ 9 [.int .i64 9] from rfl) (Reps.none _ _))))))); intro v203 w20 ho21 hb hg_ hnew_; clear hg_ hnew_; (first | rw [← Ny202.out] at ho21 | (simp only [Int.reduceToNat] at ho21; rw [← Ny202.out] at ho21)); have HO204 := Aside0.mk (Kd.uN ho21 (vG (w := w) (g := g) (row := none) cq4)); replace HI0 := Aside0.mk (IsS110.below (show IsS110 w0 (w18.setCell ⟨gb198, 2, none⟩ (.int .i64 2)) g s0_0 t200 t201 from by repeat (first | (with_reducible first | exact HI0.out | apply IsS110.alloc | apply IsS110.drewN | apply IsS110.drew | apply IsS110.set_1 | apply IsS110.set_2 | refine IsS110.far ?_ NB0_185.out _ | refine IsS110.far ?_ NB0_198.out _) | exact HI0.out)) hb); replace BK185 := tBlkF BK185 hb; replace BK198 := tBlkP BK198 #[.int .i64 t186, .int .i64 (wrap64 (1 + t189)), .int .i64 2, .int .i64 t192, .int .i64 0, .int .i64 t195] hb; replace HK := uX HK (uV.of_below hb g none); replace HB := tBel1 HB hb; clear hb ho21; obtain ⟨Ao22, co22, eo22⟩ := Kd.uS HO204.out; subst eo22) | ((with_reducible refine uB (f := 54) rfl ?_); refine uL (some 19) Tryd.func54 #[.pointer (some ⟨g, 0, none⟩), .slice Ao22 y202.length co22] ?_; (with_reducible refine (spec_l1PickInt.calls g s0_0 t200 t201 _ _ y202 t205 t206 t207 w0 _ ?side1 ?side2 ?side3 ?side4 ?side5 A8.out).mono ?_); (case side1 => exact cq26); (case side2 => exact cq1); (case side3 => repeat (first | exact (Kd.uY HO204.out).2.2 | (with_reducible refine Kd.C_alloc ?_ _) | (with_reducible refine Kd.C_drewN ?_ _) | (with_reducible refine Kd.C_drew ?_))); (case side4 => exact (Kd.uY HO204.out).2.1); (case side5 => exact far_slice (IsS110.own_ne HI0.out HO204.out (by decide))); rintro e w23 ⟨rfl, hi, hb, hk⟩; refine ⟨_, rfl, ?_⟩; replace BK185 := tKBlk BK185 hk NB185_0; replace BK198 := tKBlk BK198 hk NB198_0; replace HO204 := Aside0.mk (Kd.uG (Kd.vB (IsS110.apart (show IsS110 w0 _ g s0_0 t200 t201 from by repeat (first | (with_reducible first | exact HI0.out | apply IsS110.alloc | apply IsS110.drewN | apply IsS110.drew | apply IsS110.set_1 | apply IsS110.set_2 | refine IsS110.far ?_ NB0_185.out _ | refine IsS110.far ?_ NB0_198.out _) | exact HI0.out)) (uT HO204.out) (by decide)) hk (fun _ h => h.2)) (fun _ h => h.1)); replace HK := uX HK hk; replace HB := Aside0.mk (hb); replace HI0 := Aside0.mk (hi); (try clear hb); (try clear hk); (try clear hi); obtain ⟨hcz24_0, hcz24_1, hcz24_2, hcz24_3, hcz24_4, hcz24_5, hfz24_0, hfz24_1, hfz24_2, hfz24_3, hfz24_4, hfz24_5⟩ := cz6 BK198; have hnb25 := NB185_0.out; have hnc25 := NB0_185.out; obtain ⟨hcz26_0, hcz26_1, hcz26_2, hcz26_3, hcz26_4, hcz26_5, hfz26_0, hfz26_1, hfz26_2, hfz26_3, hfz26_4, hfz26_5⟩ := cz6 BK185))
 refine bodyPost_ret (results_cell_row rfl _ _ gb185 64 #[.int .i64 t186, .int .i64 (wrap64 (1 + t189)), .int .i64 2, .int .i64 t192, .int .i64 t205, .int .i64 t195] (0, 0) _ rfl (by (with_reducible repeat (first | refine uF ?_ _ | refine uE ?_ | refine uD ?_ _)); refine uZ (cs := #[.int .i64 t186, .int .i64 (wrap64 (1 + t189)), .int .i64 2, .int .i64 t192, .int .i64 t205, .int .i64 0]) ?_ 5 _ rfl; (with_reducible repeat (first | refine uF ?_ _ | refine uE ?_ | refine uD ?_ _)); refine uZ (cs := #[.int .i64 t186, .int .i64 (wrap64 (1 + t189)), .int .i64 2, .int .i64 t192, .int .i64 0, .int .i64 0]) ?_ 4 _ rfl; (with_reducible repeat (first | refine uF ?_ _ | refine uE ?_ | refine uD ?_ _)); refine uZ (cs := #[.int .i64 t186, .int .i64 (wrap64 (1 + t189)), .int .i64 2, .int .i64 0, .int .i64 0, .int .i64 0]) ?_ 3 _ rfl; (with_reducible repeat (first | refine uF ?_ _ | refine uE ?_ | refine uD ?_ _)); refine uZ (cs := #[.int .i64 t186, .int .i64 (wrap64 (1 + t189)), .int .i64 0, .int .i64 0, .int .i64 0, .int .i64 0]) ?_ 2 _ rfl; (with_reducible repeat (first | refine uF ?_ _ | refine uE ?_ | refine uD ?_ _)); refine uZ (cs := #[.int .i64 t186, .int .i64 0, .int .i64 0, .int .i64 0, .int .i64 0, .int .i64 0]) ?_ 1 _ rfl; (with_reducible repeat (first | refine uF ?_ _ | refine uE ?_ | refine uD ?_ _)); refine uZ (cs := #[.int .i64 0, .int .i64 0, .int .i64 0, .int .i64 0, .int .i64 0, .int .i64 0]) ?_ 0 _ rfl; (with_reducible repeat (first | refine uF ?_ _ | refine uE ?_ | refine uD ?_ _)); refine blk_far ?_ NB185_198.out _; (with_reducible repeat (first | refine uF ?_ _ | refine uE ?_ | refine uD ?_ _)); exact BK185.out) Tryd.underlying64 rfl (by kernel_rfl)) rfl ?_
 exact ⟨cq5, cq26, cq1, cq4⟩

/-! ### spec_l5Log: function 92 -/
def spec_l5Log.l0 : Nat → List (S66) → Int → Int → List Int → Int → Int → Option ((List (S66)) × Int × Int)
 | 0, _, _, _, _, _, _ => none
 | k + 1, x3, x4, x5, x1000, x1001, x1002 => if x5 > 0 then ((spec_l1Once.f x1000 x1001 x1002 3).bind fun bt214 => (if bt214.1 = true then ((spec_l3Op.f x1000 bt214.2.1 bt214.2.2).bind fun bt217 => (if x3.length < 2513169434916 then (spec_l5Log.l0 k (x3 ++ [(⟨wrap64 (x4 + 1), (⟨bt217.1, bt217.2.1, bt217.2.2.1, bt217.2.2.2.1, bt217.2.2.2.2.1, bt217.2.2.2.2.2.1⟩ : S64)⟩ : S66)]) (wrap64 (x4 + 1)) (wrap64 (x5 - 1)) x1000 bt217.2.2.2.2.2.2.1 bt217.2.2.2.2.2.2.2) else (none))) else ((spec_l3Op.f x1000 bt214.2.1 bt214.2.2).bind fun bt229 => (if x3.length < 2513169434916 then (spec_l5Log.l0 k (x3 ++ [(⟨x4, (⟨bt229.1, bt229.2.1, bt229.2.2.1, bt229.2.2.2.1, bt229.2.2.2.2.1, bt229.2.2.2.2.2.1⟩ : S64)⟩ : S66)]) x4 (wrap64 (x5 - 1)) x1000 bt229.2.2.2.2.2.2.1 bt229.2.2.2.2.2.2.2) else (none))))) else (some (x3, x1001, x1002))
def spec_l5Log.f (k : Nat) (s0_0 : List Int) (s0_1 : Int) (s0_2 : Int) : Option ((List (S66)) × Int × Int) := (spec_l1Below.f s0_0 s0_1 s0_2 7).bind fun bt211 => (spec_l5Log.l0 k (([] : List (S66))) 1 bt211.1 s0_0 bt211.2.1 bt211.2.2)
theorem spec_l5Log.mono_l : ∀ k, (∀ y0 y1 y2 y3 y4 y5, uA (spec_l5Log.l0 k y0 y1 y2 y3 y4 y5) (spec_l5Log.l0 (k + 1) y0 y1 y2 y3 y4 y5))
 | 0 => fun _ _ _ _ _ _ r h => by simp [spec_l5Log.l0] at h
 | k + 1 => by
  have ih0 := spec_l5Log.mono_l k
  intro y0 y1 y2 y3 y4 y5
  unfold spec_l5Log.l0
  repeat' first
  | (with_reducible exact ih0 _ _ _ _ _ _)
  | (with_reducible exact uA.refl _)
  | (with_reducible exact uA.none _)
  | (with_reducible refine uA.vA ?_ ?_)
  | (with_reducible refine uA.bind ?_ (fun _ => ?_))
  | exact ih0 _ _ _ _ _ _
  | exact uA.none _
  | refine uA.vA ?_ ?_
  | refine uA.bind ?_ (fun _ => ?_)
theorem spec_l5Log.mono : ∀ a0 a1 a2 k, uA (spec_l5Log.f k a0 a1 a2) (spec_l5Log.f (k + 1) a0 a1 a2) := by
 intro a0 a1 a2 k
 have ih0 := spec_l5Log.mono_l k
 unfold spec_l5Log.f
 repeat' first
   | (with_reducible exact ih0 _ _ _ _ _ _)
   | (with_reducible exact uA.refl _)
   | (with_reducible exact uA.none _)
   | (with_reducible refine uA.vA ?_ ?_)
   | (with_reducible refine uA.bind ?_ (fun _ => ?_))
   | exact ih0 _ _ _ _ _ _
   | exact uA.none _
   | refine uA.vA ?_ ?_
   | refine uA.bind ?_ (fun _ => ?_)
set_option maxHeartbeats 8000000 in
set_option maxRecDepth 100000 in
theorem spec_l5Log.calls (k : Nat) (g : Nat) (s0_0 : List Int) (s0_1 : Int) (s0_2 : Int) (r1 : List (S66)) (r2 : Int) (r3 : Int) (w0 w : World) (hI : IsS110 w0 w g s0_0 s0_1 s0_2) (hB : Below w0.heap.size w0 w) (h : spec_l5Log.f k s0_0 s0_1 s0_2 = some (r1, r2, r3)) :
  Calls Tryd.prog 92 #[.pointer (some ⟨g, 0, none⟩)] w fun e w' => ∃ v0_ : Value, e = .returned (v0_) ∧ Kd.R k66 66 w' w.heap.size (fun _ => True) v0_ r1 ∧ IsS110 w0 w' g s0_0 r2 r3 ∧ Below w0.heap.size w0 w' ∧ uV w w' g none := by
 have hu64 := Tryd.underlying64
 have hu66 := Tryd.underlying66
 have HI0 := Aside0.mk hI
 have HK := Aside0.mk (uV.refl w g none)
 have HL := Aside0.mk hB.size
 clear hI
 have HW0 := Aside0.mk hB.size
 have HB := Aside0.mk hB
 clear hB
 have H : ((spec_l1Below.f s0_0 s0_1 s0_2 7).bind fun bt211 => (spec_l5Log.l0 k (([] : List (S66))) 1 bt211.1 s0_0 bt211.2.1 bt211.2.2)) = some (r1, r2, r3) := h
 clear h
 obtain ⟨y208, hy208⟩ : ∃ y_ : List (S66), y_ = (([] : List (S66))) := ⟨_, rfl⟩
 replace H : ((spec_l1Below.f s0_0 s0_1 s0_2 7).bind fun bt211 => (spec_l5Log.l0 k y208 1 bt211.1 s0_0 bt211.2.1 bt211.2.2)) = some (r1, r2, r3) := rpl hy208 H
 have Ny208 := Aside0.mk hy208
 clear hy208
 replace H := Option.bind_eq_some_iff.mp H
 obtain ⟨⟨t211, t212, t213⟩, A20, H⟩ := H
 try dsimp only at H
 have A2 := Aside0.mk A20
 clear A20
 have H' := Aside0.mk H
 clear H
 go_enter Tryd.func92, Tryd.ntmps92
 go_wp2_with (first | ((with_reducible refine uQ (N := 7) rfl ?_); refine Kd.R_lit k66 _ 66 ?hg (N := 7) ?hd (xs := ([] : List (S66))) (inner := []) (ok := fun _ => True) (okp := fun _ => True) ?hr ?hp (fun _ hk => hk) trivial (Below.refl _ _) (Nat.le_refl _) (by simp) ?_; (case hd => rfl); (case hg => rfl); (case hr => first | (go_simp; done) | (go_simp; rfl)); (case hp => exact (Reps.none _ _)); intro v209 w3 ho4 hb hg_ hnew_; clear hg_ hnew_; (first | rw [← Ny208.out] at ho4 | (simp only [Int.reduceToNat] at ho4; rw [← Ny208.out] at ho4)); have HO210 := Aside0.mk (Kd.uN ho4 (vG (w := w) (g := g) (row := none) cq11)); replace HI0 := Aside0.mk (IsS110.below cq3 hb); replace HK := uX HK (uV.of_below hb g none); replace HB := tBel1 HB hb; clear hb ho4) | ((with_reducible refine uB (f := 52) rfl ?_); refine uL (some 9) Tryd.func52 #[.pointer (some ⟨g, 0, none⟩), .int .i64 7] ?_; (with_reducible refine (spec_l1Below.calls g s0_0 s0_1 s0_2 7 t211 t212 t213 w0 _ ?side1 ?side2 A2.out).mono ?_); (case side1 => exact cq3); (case side2 => exact cq6); rintro e w5 ⟨rfl, hi, hb, hk⟩; refine ⟨_, rfl, ?_⟩; replace HO210 := Aside0.mk (Kd.uG (Kd.vB (IsS110.apart (show IsS110 w0 _ g s0_0 s0_1 s0_2 from by repeat (first | (with_reducible first | exact HI0.out | apply IsS110.alloc | apply IsS110.drewN | apply IsS110.drew | apply IsS110.set_1 | apply IsS110.set_2) | exact HI0.out)) (uT HO210.out) (by decide)) hk (fun _ h => h.2)) (fun _ h => h.1)); replace HK := uX HK hk; replace HB := Aside0.mk (hb); replace HI0 := Aside0.mk (hi); (try clear hb); (try clear hk); (try clear hi)))
 go_loopg [3, 4, 5] k (fun kq v3 v4 v5 w' => ∃ (x3_1 : List (S66)) (x4_1 : Int) (x5_1 : Int) (x1001_1 : Int) (x1002_1 : Int), v4 = .int .i64 x4_1 ∧ v5 = .int .i64 x5_1 ∧ Aside0 (spec_l5Log.l0 kq x3_1 x4_1 x5_1 s0_0 x1001_1 x1002_1 = some (r1, r2, r3)) ∧ Aside0 (kq ≤ k) ∧ Aside0 (Kd.R k66 66 w' w.heap.size (fun _ => True) v3 x3_1) ∧ Aside0 (IsS110 w0 w' g s0_0 x1001_1 x1002_1) ∧ Aside0 (uV w w' g none) ∧ Aside0 (Below w0.heap.size w0 w'))
 case atStart => exact ⟨(y208), (1), (t211), (t212), (t213), vD, vD, H', ⟨Nat.le_refl _⟩, ⟨by (with_reducible repeat (first | apply Kd.uK | apply Kd.uJ | apply Kd.uO)); exact HO210.out⟩, ⟨cq3⟩, ⟨cq11⟩, ⟨cq6⟩⟩
 case round =>
  clear H'
  obtain ⟨x3_1, x4_1, x5_1, x1001_1, x1002_1, rfl, rfl, HA, HK1, HO_3, HI0, HK, HB⟩ := hrel
  cases gk with
  | zero => exact absurd HA.out (by simp [spec_l5Log.l0])
  | succ k1 =>
   have H := HA.out
   clear HA
   simp only [spec_l5Log.l0] at H
   by_cases c6 : x5_1 > 0
   rotate_left
   ·rw [if_neg c6] at H
    have c6b0 := decide_eq_false c6
    clear c6
    simp only [Option.some.injEq, Prod.mk.injEq] at H
    obtain ⟨rfl, rfl, rfl⟩ := H
    go_wp2
    go_ret
    exact ⟨_, cq5, by (with_reducible repeat (first | apply Kd.uK | apply Kd.uJ | apply Kd.uO)); exact HO_3.out, cq3, cq6, cq11⟩
   rw [if_pos c6] at H
   have c6b0 := decide_eq_true c6
   clear c6
   replace H := Option.bind_eq_some_iff.mp H
   obtain ⟨⟨t214, t215, t216⟩, A70, H⟩ := H
   try dsimp only at H
   have A7 := Aside0.mk A70
   clear A70
   by_cases c8 : t214 = true
   rotate_left
   ·replace c8 := Bool.eq_false_iff.mpr c8
    subst c8
    try rw [if_neg (show ¬ (false = true) by decide)] at H
    replace H := Option.bind_eq_some_iff.mp H
    obtain ⟨⟨t229, t230, t231, t232, t233, t234, t235, t236⟩, A170, H⟩ := H
    try dsimp only at H
    have A17 := Aside0.mk A170
    clear A170
    obtain ⟨LMc18, H⟩ := ifL H
    obtain ⟨y237, hy237⟩ : ∃ y_ : List (S66), y_ = (x3_1 ++ [(⟨x4_1, (⟨t229, t230, t231, t232, t233, t234⟩ : S64)⟩ : S66)]) := ⟨_, rfl⟩
    replace H : (spec_l5Log.l0 k1 y237 x4_1 (wrap64 (x5_1 - 1)) s0_0 t235 t236) = some (r1, r2, r3) := rpl hy237 H
    have Ny237 := Aside0.mk hy237
    clear hy237
    have H' := Aside0.mk H
    clear H
    go_wp2_with (first | ((with_reducible refine uB (f := 53) rfl ?_); refine uL (some 15) Tryd.func53 #[.pointer (some ⟨g, 0, none⟩), .int .i64 3] ?_; (with_reducible refine (spec_l1Once.calls g s0_0 x1001_1 x1002_1 3 false t215 t216 w0 _ ?side1 ?side2 A7.out).mono ?_); (case side1 => exact cq3); (case side2 => exact cq6); rintro e w19 ⟨rfl, hi, hb, hk⟩; refine ⟨_, rfl, ?_⟩; replace HO_3 := Aside0.mk (Kd.uG (Kd.vB (IsS110.apart (show IsS110 w0 _ g s0_0 x1001_1 x1002_1 from by repeat (first | (with_reducible first | exact HI0.out | apply IsS110.alloc | apply IsS110.drewN | apply IsS110.drew | apply IsS110.set_1 | apply IsS110.set_2) | exact HI0.out)) (uT HO_3.out) (by decide)) hk (fun _ h => h.2)) (fun _ h => h.1)); replace HK := uX HK hk; replace HB := Aside0.mk (hb); replace HI0 := Aside0.mk (hi); (try clear hb); (try clear hk); (try clear hi)) | ((with_reducible refine uB (f := 85) rfl ?_); refine uL (some 19) Tryd.func85 #[.pointer (some ⟨g, 0, none⟩)] ?_; (with_reducible refine (spec_l3Op.calls g s0_0 t215 t216 t229 t230 t231 t232 t233 t234 t235 t236 w0 _ ?side1 ?side2 A17.out).mono ?_); (case side1 => exact cq3); (case side2 => exact cq6); rintro e w20 ⟨rfl, hi, hb, hk⟩; refine ⟨_, rfl, ?_⟩; replace HO_3 := Aside0.mk (Kd.uG (Kd.vB (IsS110.apart (show IsS110 w0 _ g s0_0 t215 t216 from by repeat (first | (with_reducible first | exact HI0.out | apply IsS110.alloc | apply IsS110.drewN | apply IsS110.drew | apply IsS110.set_1 | apply IsS110.set_2) | exact HI0.out)) (uT HO_3.out) (by decide)) hk (fun _ h => h.2)) (fun _ h => h.1)); replace HK := uX HK hk; replace HB := Aside0.mk (hb); replace HI0 := Aside0.mk (hi); (try clear hb); (try clear hk); (try clear hi)) | ((with_reducible refine uQ (N := 6) rfl ?_); refine bxe 6 #[.int .i64 0, .int .i64 0, .int .i64 0, .int .i64 0, .int .i64 0, .int .i64 0] 64 ?_; intro gb225 hg w21 hbox hb; have BK225 := Aside0.mk (hbox); have GW225 := tKGe HK hg; have GE225 := tKW HW0 HK hg; have NB0_225 := Aside0.mk ((by rw [hg]; exact Nat.ne_of_lt (IsS110.lt (show IsS110 w0 _ g s0_0 t235 t236 from by repeat (first | (with_reducible first | exact HI0.out | apply IsS110.alloc | apply IsS110.drewN | apply IsS110.drew | apply IsS110.set_1 | apply IsS110.set_2) | exact HI0.out))) : g ≠ gb225)); have NB225_0 := Aside0.mk ((by rw [hg]; exact Nat.ne_of_gt (IsS110.lt (show IsS110 w0 _ g s0_0 t235 t236 from by repeat (first | (with_reducible first | exact HI0.out | apply IsS110.alloc | apply IsS110.drewN | apply IsS110.drew | apply IsS110.set_1 | apply IsS110.set_2) | exact HI0.out))) : gb225 ≠ g)); replace HO_3 := Kd.tR HO_3 hb; replace HI0 := Aside0.mk (IsS110.below cq3 hb); replace HK := uX HK (uV.of_below hb g none); replace HB := tBel1 HB hb; clear hb hbox hg; have hnb22 := NB225_0.out; have hnc22 := NB0_225.out; obtain ⟨hcz23_0, hcz23_1, hcz23_2, hcz23_3, hcz23_4, hcz23_5, hfz23_0, hfz23_1, hfz23_2, hfz23_3, hfz23_4, hfz23_5⟩ := cz6 BK225) | ((with_reducible refine gate_builtin (b := .append) (xs := #[.tmp 20, .tmp 24]) rfl ?_); at_builtin; refine Kd.R_append k66 w.heap.size rfl (.tmp 20) (.tmp 24) 24 66 (.agg #[(.int .i64 0), (.int .i64 0), (.int .i64 0), (.int .i64 0), (.int .i64 0), (.int .i64 0), (.int .i64 0)]) 56 rfl Tryd.underlying24 info66 rfl (by decide) (by omega) u3 x3_1 (⟨x4_1, (⟨t229, t230, t231, t232, t233, t234⟩ : S64)⟩ : S66) [.int .i64 x4_1, .int .i64 t229, .int .i64 t230, .int .i64 t231, .int .i64 t232, .int .i64 t233, .int .i64 t234] (fun _ => True) (fun _ => False) rfl (by first | (go_simp; done) | (go_simp; rfl)) ?aP (fun _ hk => hk.elim) ?aF ?aO (Below.refl _ _) ?aS ?aL ?_; (case aP => exact k66_mkM _ _ _ (⟨x4_1, (⟨t229, t230, t231, t232, t233, t234⟩ : S64)⟩ : S66)); (case aF => exact (fun _ _ => trivial)); (case aO => exact (by (with_reducible repeat (first | apply Kd.uK | apply Kd.uJ | apply Kd.uO)); exact Kd.uG (Kd.uI (p := ⟨gb225, 5, none⟩) (Kd.uI (p := ⟨gb225, 4, none⟩) (Kd.uI (p := ⟨gb225, 3, none⟩) (Kd.uI (p := ⟨gb225, 2, none⟩) (Kd.uI (p := ⟨gb225, 1, none⟩) (Kd.uI (p := ⟨gb225, 0, none⟩) (Kd.vE HO_3.out BK225.out (by decide)) (fun _ hk => hk.2) (.int .i64 t229)) (fun _ hk => hk.2) (.int .i64 t230)) (fun _ hk => hk.2) (.int .i64 t231)) (fun _ hk => hk.2) (.int .i64 t232)) (fun _ hk => hk.2) (.int .i64 t233)) (fun _ hk => hk.2) (.int .i64 t234)) (fun _ hk => trivial))); (case aS => exact cq48); (case aL => have := LMc18.out; omega); intro v238 w24 ho hb hg hat; rw [← Ny237.out] at ho; have n0_ := IsS110.tgr HI0 hg (IsS110.own_ne HI0.out HO_3.out (by decide)); have n1_ := tGrP BK225 #[.int .i64 t229, .int .i64 t230, .int .i64 t231, .int .i64 t232, .int .i64 t233, .int .i64 t234] hg (Kd.R_ne HO_3.out BK225.out (by decide)); have n2_ := Aside0.mk (below_weaken cq1 HL.out hb); have n3_ := Aside0.mk (uV.trans cq4 (uV.of_grown hg g) (Kd.R_base2 HO_3.out)); have n4_ := Aside0.mk (ho); clear HI0; clear BK225; clear HB; clear HK; clear HO_3; have HI0 := n0_; have BK225 := n1_; have HB := n2_; have HK := n3_; have HO239 := n4_; clear n0_ n1_ n2_ n3_ n4_; clear ho hb hg hat))
    go_roundg k1
    case measure => have := HK1.out; omega
    case rel => exact ⟨(y237), (x4_1), (wrap64 (x5_1 - 1)), (t235), (t236), vD, vD, H', ⟨by have := HK1.out; omega⟩, ⟨by (with_reducible repeat (first | apply Kd.uK | apply Kd.uJ | apply Kd.uO)); exact HO239.out⟩, ⟨by repeat (first | (with_reducible first | exact HI0.out | apply IsS110.alloc | apply IsS110.drewN | apply IsS110.drew | apply IsS110.set_1 | apply IsS110.set_2 | refine IsS110.far ?_ NB0_225.out _) | exact HI0.out)⟩, ⟨cq4⟩, ⟨cq1⟩⟩
   subst c8
   try rw [if_pos rfl] at H
   replace H := Option.bind_eq_some_iff.mp H
   obtain ⟨⟨t217, t218, t219, t220, t221, t222, t223, t224⟩, A90, H⟩ := H
   try dsimp only at H
   have A9 := Aside0.mk A90
   clear A90
   obtain ⟨LMc10, H⟩ := ifL H
   obtain ⟨y226, hy226⟩ : ∃ y_ : List (S66), y_ = (x3_1 ++ [(⟨wrap64 (x4_1 + 1), (⟨t217, t218, t219, t220, t221, t222⟩ : S64)⟩ : S66)]) := ⟨_, rfl⟩
   replace H : (spec_l5Log.l0 k1 y226 (wrap64 (x4_1 + 1)) (wrap64 (x5_1 - 1)) s0_0 t223 t224) = some (r1, r2, r3) := rpl hy226 H
   have Ny226 := Aside0.mk hy226
   clear hy226
   have H' := Aside0.mk H
   clear H
   go_wp2_with (first | ((with_reducible refine uB (f := 53) rfl ?_); refine uL (some 15) Tryd.func53 #[.pointer (some ⟨g, 0, none⟩), .int .i64 3] ?_; (with_reducible refine (spec_l1Once.calls g s0_0 x1001_1 x1002_1 3 true t215 t216 w0 _ ?side1 ?side2 A7.out).mono ?_); (case side1 => exact cq3); (case side2 => exact cq6); rintro e w11 ⟨rfl, hi, hb, hk⟩; refine ⟨_, rfl, ?_⟩; replace HO_3 := Aside0.mk (Kd.uG (Kd.vB (IsS110.apart (show IsS110 w0 _ g s0_0 x1001_1 x1002_1 from by repeat (first | (with_reducible first | exact HI0.out | apply IsS110.alloc | apply IsS110.drewN | apply IsS110.drew | apply IsS110.set_1 | apply IsS110.set_2) | exact HI0.out)) (uT HO_3.out) (by decide)) hk (fun _ h => h.2)) (fun _ h => h.1)); replace HK := uX HK hk; replace HB := Aside0.mk (hb); replace HI0 := Aside0.mk (hi); (try clear hb); (try clear hk); (try clear hi)) | ((with_reducible refine uB (f := 85) rfl ?_); refine uL (some 19) Tryd.func85 #[.pointer (some ⟨g, 0, none⟩)] ?_; (with_reducible refine (spec_l3Op.calls g s0_0 t215 t216 t217 t218 t219 t220 t221 t222 t223 t224 w0 _ ?side1 ?side2 A9.out).mono ?_); (case side1 => exact cq3); (case side2 => exact cq6); rintro e w12 ⟨rfl, hi, hb, hk⟩; refine ⟨_, rfl, ?_⟩; replace HO_3 := Aside0.mk (Kd.uG (Kd.vB (IsS110.apart (show IsS110 w0 _ g s0_0 t215 t216 from by repeat (first | (with_reducible first | exact HI0.out | apply IsS110.alloc | apply IsS110.drewN | apply IsS110.drew | apply IsS110.set_1 | apply IsS110.set_2) | exact HI0.out)) (uT HO_3.out) (by decide)) hk (fun _ h => h.2)) (fun _ h => h.1)); replace HK := uX HK hk; replace HB := Aside0.mk (hb); replace HI0 := Aside0.mk (hi); (try clear hb); (try clear hk); (try clear hi)) | ((with_reducible refine uQ (N := 6) rfl ?_); refine bxe 6 #[.int .i64 0, .int .i64 0, .int .i64 0, .int .i64 0, .int .i64 0, .int .i64 0] 64 ?_; intro gb225 hg w13 hbox hb; have BK225 := Aside0.mk (hbox); have GW225 := tKGe HK hg; have GE225 := tKW HW0 HK hg; have NB0_225 := Aside0.mk ((by rw [hg]; exact Nat.ne_of_lt (IsS110.lt (show IsS110 w0 _ g s0_0 t223 t224 from by repeat (first | (with_reducible first | exact HI0.out | apply IsS110.alloc | apply IsS110.drewN | apply IsS110.drew | apply IsS110.set_1 | apply IsS110.set_2) | exact HI0.out))) : g ≠ gb225)); have NB225_0 := Aside0.mk ((by rw [hg]; exact Nat.ne_of_gt (IsS110.lt (show IsS110 w0 _ g s0_0 t223 t224 from by repeat (first | (with_reducible first | exact HI0.out | apply IsS110.alloc | apply IsS110.drewN | apply IsS110.drew | apply IsS110.set_1 | apply IsS110.set_2) | exact HI0.out))) : gb225 ≠ g)); replace HO_3 := Kd.tR HO_3 hb; replace HI0 := Aside0.mk (IsS110.below cq3 hb); replace HK := uX HK (uV.of_below hb g none); replace HB := tBel1 HB hb; clear hb hbox hg; have hnb14 := NB225_0.out; have hnc14 := NB0_225.out; obtain ⟨hcz15_0, hcz15_1, hcz15_2, hcz15_3, hcz15_4, hcz15_5, hfz15_0, hfz15_1, hfz15_2, hfz15_3, hfz15_4, hfz15_5⟩ := cz6 BK225) | ((with_reducible refine gate_builtin (b := .append) (xs := #[.tmp 20, .tmp 24]) rfl ?_); at_builtin; refine Kd.R_append k66 w.heap.size rfl (.tmp 20) (.tmp 24) 24 66 (.agg #[(.int .i64 0), (.int .i64 0), (.int .i64 0), (.int .i64 0), (.int .i64 0), (.int .i64 0), (.int .i64 0)]) 56 rfl Tryd.underlying24 info66 rfl (by decide) (by omega) u3 x3_1 (⟨wrap64 (x4_1 + 1), (⟨t217, t218, t219, t220, t221, t222⟩ : S64)⟩ : S66) [.int .i64 (wrap64 (x4_1 + 1)), .int .i64 t217, .int .i64 t218, .int .i64 t219, .int .i64 t220, .int .i64 t221, .int .i64 t222] (fun _ => True) (fun _ => False) rfl (by first | (go_simp; done) | (go_simp; rfl)) ?aP (fun _ hk => hk.elim) ?aF ?aO (Below.refl _ _) ?aS ?aL ?_; (case aP => exact k66_mkM _ _ _ (⟨wrap64 (x4_1 + 1), (⟨t217, t218, t219, t220, t221, t222⟩ : S64)⟩ : S66)); (case aF => exact (fun _ _ => trivial)); (case aO => exact (by (with_reducible repeat (first | apply Kd.uK | apply Kd.uJ | apply Kd.uO)); exact Kd.uG (Kd.uI (p := ⟨gb225, 5, none⟩) (Kd.uI (p := ⟨gb225, 4, none⟩) (Kd.uI (p := ⟨gb225, 3, none⟩) (Kd.uI (p := ⟨gb225, 2, none⟩) (Kd.uI (p := ⟨gb225, 1, none⟩) (Kd.uI (p := ⟨gb225, 0, none⟩) (Kd.vE HO_3.out BK225.out (by decide)) (fun _ hk => hk.2) (.int .i64 t217)) (fun _ hk => hk.2) (.int .i64 t218)) (fun _ hk => hk.2) (.int .i64 t219)) (fun _ hk => hk.2) (.int .i64 t220)) (fun _ hk => hk.2) (.int .i64 t221)) (fun _ hk => hk.2) (.int .i64 t222)) (fun _ hk => trivial))); (case aS => exact cq48); (case aL => have := LMc10.out; omega); intro v227 w16 ho hb hg hat; rw [← Ny226.out] at ho; have n0_ := IsS110.tgr HI0 hg (IsS110.own_ne HI0.out HO_3.out (by decide)); have n1_ := tGrP BK225 #[.int .i64 t217, .int .i64 t218, .int .i64 t219, .int .i64 t220, .int .i64 t221, .int .i64 t222] hg (Kd.R_ne HO_3.out BK225.out (by decide)); have n2_ := Aside0.mk (below_weaken cq1 HL.out hb); have n3_ := Aside0.mk (uV.trans cq4 (uV.of_grown hg g) (Kd.R_base2 HO_3.out)); have n4_ := Aside0.mk (ho); clear HI0; clear BK225; clear HB; clear HK; clear HO_3; have HI0 := n0_; have BK225 := n1_; have HB := n2_; have HK := n3_; have HO228 := n4_; clear n0_ n1_ n2_ n3_ n4_; clear ho hb hg hat))
   go_roundg k1
   case measure => have := HK1.out; omega
   case rel => exact ⟨(y226), (wrap64 (x4_1 + 1)), (wrap64 (x5_1 - 1)), (t223), (t224), vD, vD, H', ⟨by have := HK1.out; omega⟩, ⟨by (with_reducible repeat (first | apply Kd.uK | apply Kd.uJ | apply Kd.uO)); exact HO228.out⟩, ⟨by repeat (first | (with_reducible first | exact HI0.out | apply IsS110.alloc | apply IsS110.drewN | apply IsS110.drew | apply IsS110.set_1 | apply IsS110.set_2 | refine IsS110.far ?_ NB0_225.out _) | exact HI0.out)⟩, ⟨cq4⟩, ⟨cq1⟩⟩

/-! ### spec_IsValidOp: function 49 -/
def spec_IsValidOp.f (a0_0 : Int) (a0_1 : Int) (a0_2 : Int) (a0_3 : Int) (a0_4 : Int) (a0_5 : Int) : Option (Bool) := (spec_l1In.f a0_0 0 2).bind fun t241 => (if t241 = true then ((spec_l1In.f a0_1 1 99).bind fun t242 => (if t242 = true then ((spec_l1In.f a0_3 0 2).bind fun t243 => (if t243 = true then ((spec_l1In.f a0_5 0 9).bind fun t244 => (if t244 = true then (if a0_2 = 1 then (if a0_4 = 0 then (some true) else (if a0_2 = 2 then ((spec_l1In.f a0_4 0 9).bind fun t245 => (some t245)) else (some false))) else (if a0_2 = 2 then ((spec_l1In.f a0_4 0 9).bind fun t246 => (some t246)) else (some false))) else (some false))) else (some false))) else (some false))) else (some false))
set_option maxHeartbeats 8000000 in
set_option maxRecDepth 100000 in
theorem spec_IsValidOp.calls (a0_0 : Int) (a0_1 : Int) (a0_2 : Int) (a0_3 : Int) (a0_4 : Int) (a0_5 : Int) (r : Bool) (w : World) (h : spec_IsValidOp.f a0_0 a0_1 a0_2 a0_3 a0_4 a0_5 = some r) :
  Calls Tryd.prog 49 #[.agg #[.int .i64 a0_0, .int .i64 a0_1, .int .i64 a0_2, .int .i64 a0_3, .int .i64 a0_4, .int .i64 a0_5]] w fun e w' => e = .returned (.bool r) ∧ Below w.heap.size w w' := by
 have hu64 := Tryd.underlying64
 have HB := Aside0.mk (Below.refl w.heap.size w)
 have H : ((spec_l1In.f a0_0 0 2).bind fun t241 => (if t241 = true then ((spec_l1In.f a0_1 1 99).bind fun t242 => (if t242 = true then ((spec_l1In.f a0_3 0 2).bind fun t243 => (if t243 = true then ((spec_l1In.f a0_5 0 9).bind fun t244 => (if t244 = true then (if a0_2 = 1 then (if a0_4 = 0 then (some true) else (if a0_2 = 2 then ((spec_l1In.f a0_4 0 9).bind fun t245 => (some t245)) else (some false))) else (if a0_2 = 2 then ((spec_l1In.f a0_4 0 9).bind fun t246 => (some t246)) else (some false))) else (some false))) else (some false))) else (some false))) else (some false))) = some r := h
 clear h
 replace H := Option.bind_eq_some_iff.mp H
 obtain ⟨t241, A20, H⟩ := H
 try dsimp only at H
 have A2 := Aside0.mk A20
 clear A20
 go_enter Tryd.func49, Tryd.ntmps49
 go_wp2_with (first | ((with_reducible refine uQ (N := 1) rfl ?_); refine bxe 1 #[.int .i64 a0_0, .int .i64 a0_1, .int .i64 a0_2, .int .i64 a0_3, .int .i64 a0_4, .int .i64 a0_5] 64 ?_; intro gb240 hg w32 hbox hb; have BK240 := Aside0.mk (hbox); have GW240 := tGe HB hg; have GE240 := tGe HB hg; replace HB := uH HB hb; clear hb hbox hg; obtain ⟨hcz33_0, hcz33_1, hcz33_2, hcz33_3, hcz33_4, hcz33_5, hfz33_0, hfz33_1, hfz33_2, hfz33_3, hfz33_4, hfz33_5⟩ := cz6 BK240; refine ?roundEnd))
 case roundEnd =>
 by_cases c3 : t241 = true
 rotate_left
 ·replace c3 := Bool.eq_false_iff.mpr c3
  subst c3
  try rw [if_neg (show ¬ (false = true) by decide)] at H
  obtain rfl := Option.some.inj H
  go_wp2_with (first | ((with_reducible refine uB (f := 48) rfl ?_); refine uL (some 5) Tryd.func48 #[.int .i64 a0_0, .int .i64 0, .int .i64 2] ?_; (with_reducible refine (spec_l1In.calls a0_0 0 2 false _ A2.out).mono ?_); rintro e w' ⟨rfl, ⟨nd, rfl⟩⟩; refine ⟨_, rfl, ?_⟩))
  go_ret
  exact ⟨cq5, cq2⟩
 subst c3
 try rw [if_pos rfl] at H
 replace H := Option.bind_eq_some_iff.mp H
 obtain ⟨t242, A40, H⟩ := H
 try dsimp only at H
 have A4 := Aside0.mk A40
 clear A40
 go_wp2_with (first | ((with_reducible refine uB (f := 48) rfl ?_); refine uL (some 5) Tryd.func48 #[.int .i64 a0_0, .int .i64 0, .int .i64 2] ?_; (with_reducible refine (spec_l1In.calls a0_0 0 2 true _ A2.out).mono ?_); rintro e w' ⟨rfl, ⟨nd, rfl⟩⟩; refine ⟨_, rfl, ?_⟩; refine ?roundEnd))
 case roundEnd =>
 by_cases c5 : t242 = true
 rotate_left
 ·replace c5 := Bool.eq_false_iff.mpr c5
  subst c5
  try rw [if_neg (show ¬ (false = true) by decide)] at H
  obtain rfl := Option.some.inj H
  go_wp2_with (first | (go_at_call 48; (with_reducible refine (spec_l1In.calls a0_1 1 99 false _ A4.out).mono ?_); rintro e w' ⟨rfl, ⟨nd, rfl⟩⟩))
  go_ret
  exact ⟨cq5, cq2⟩
 subst c5
 try rw [if_pos rfl] at H
 replace H := Option.bind_eq_some_iff.mp H
 obtain ⟨t243, A60, H⟩ := H
 try dsimp only at H
 have A6 := Aside0.mk A60
 clear A60
 go_wp2_with (first | (go_at_call 48; (with_reducible refine (spec_l1In.calls a0_1 1 99 true _ A4.out).mono ?_); rintro e w' ⟨rfl, ⟨nd, rfl⟩⟩; refine ?roundEnd))
 case roundEnd =>
 by_cases c7 : t243 = true
 rotate_left
 ·replace c7 := Bool.eq_false_iff.mpr c7
  subst c7
  try rw [if_neg (show ¬ (false = true) by decide)] at H
  obtain rfl := Option.some.inj H
  go_wp2_with (first | (go_at_call 48; (with_reducible refine (spec_l1In.calls a0_3 0 2 false _ A6.out).mono ?_); rintro e w' ⟨rfl, ⟨nd, rfl⟩⟩))
  go_ret
  exact ⟨cq5, cq2⟩
 subst c7
 try rw [if_pos rfl] at H
 replace H := Option.bind_eq_some_iff.mp H
 obtain ⟨t244, A80, H⟩ := H
 try dsimp only at H
 have A8 := Aside0.mk A80
 clear A80
 go_wp2_with (first | (go_at_call 48; (with_reducible refine (spec_l1In.calls a0_3 0 2 true _ A6.out).mono ?_); rintro e w' ⟨rfl, ⟨nd, rfl⟩⟩; refine ?roundEnd))
 case roundEnd =>
 by_cases c9 : t244 = true
 rotate_left
 ·replace c9 := Bool.eq_false_iff.mpr c9
  subst c9
  try rw [if_neg (show ¬ (false = true) by decide)] at H
  obtain rfl := Option.some.inj H
  go_wp2_with (first | (go_at_call 48; (with_reducible refine (spec_l1In.calls a0_5 0 9 false _ A8.out).mono ?_); rintro e w' ⟨rfl, ⟨nd, rfl⟩⟩))
  go_ret
  exact ⟨cq5, cq2⟩
 subst c9
 try rw [if_pos rfl] at H
 go_wp2_with (first | (go_at_call 48; (with_reducible refine (spec_l1In.calls a0_5 0 9 true _ A8.out).mono ?_); rintro e w' ⟨rfl, ⟨nd, rfl⟩⟩; refine ?roundEnd))
 case roundEnd =>
 by_cases c10 : a0_2 = 1
 rotate_left
 ·rw [if_neg c10] at H
  have c10b0 := beq_eq_false_iff_ne.mpr c10
  have c10b1 := bne_iff_ne.mpr c10
  by_cases c20 : a0_2 = 2
  rotate_left
  ·rw [if_neg c20] at H
   have c20b0 := beq_eq_false_iff_ne.mpr c20
   have c20b1 := bne_iff_ne.mpr c20
   obtain rfl := Option.some.inj H
   go_wp2
   go_ret
   exact ⟨cq5, cq2⟩
  rw [if_pos c20] at H
  have c20b0 := beq_iff_eq.mpr c20
  have c20b1 := bne_eq_false_iff_eq.mpr c20
  clear c20
  replace H := Option.bind_eq_some_iff.mp H
  obtain ⟨t246, A210, H⟩ := H
  try dsimp only at H
  have A21 := Aside0.mk A210
  clear A210
  obtain rfl := Option.some.inj H
  go_wp2_with (first | (go_at_call 48; (with_reducible refine (spec_l1In.calls a0_4 0 9 t246 _ A21.out).mono ?_); rintro e w' ⟨rfl, ⟨nd, rfl⟩⟩))
  go_ret
  exact ⟨cq5, cq2⟩
 rw [if_pos c10] at H
 have c10b0 := beq_iff_eq.mpr c10
 have c10b1 := bne_eq_false_iff_eq.mpr c10
 clear c10
 by_cases c11 : a0_4 = 0
 ·rw [if_pos c11] at H
  have c11b0 := beq_iff_eq.mpr c11
  have c11b1 := bne_eq_false_iff_eq.mpr c11
  clear c11
  obtain rfl := Option.some.inj H
  go_wp2
  go_ret
  exact ⟨cq5, cq2⟩
 rw [if_neg c11] at H
 have c11b0 := beq_eq_false_iff_ne.mpr c11
 have c11b1 := bne_iff_ne.mpr c11
 by_cases c14 : a0_2 = 2
 rotate_left
 ·rw [if_neg c14] at H
  have c14b0 := beq_eq_false_iff_ne.mpr c14
  have c14b1 := bne_iff_ne.mpr c14
  obtain rfl := Option.some.inj H
  go_wp2
  go_ret
  exact ⟨cq5, cq2⟩
 rw [if_pos c14] at H
 have c14b0 := beq_iff_eq.mpr c14
 have c14b1 := bne_eq_false_iff_eq.mpr c14
 clear c14
 replace H := Option.bind_eq_some_iff.mp H
 obtain ⟨t245, A150, H⟩ := H
 try dsimp only at H
 have A15 := Aside0.mk A150
 clear A150
 obtain rfl := Option.some.inj H
 go_wp2_with (first | (go_at_call 48; (with_reducible refine (spec_l1In.calls a0_4 0 9 t245 _ A15.out).mono ?_); rintro e w' ⟨rfl, ⟨nd, rfl⟩⟩))
 go_ret
 exact ⟨cq5, cq2⟩

end Go.Proofs.YtcikahnmiiichaaDoor.K
