/- Go functions as Lean functions, and the proof that the code comes to them: written by a program of this session out of the translation. -/
import Derived.Test.YtcikahnmiiichaaDoorK0
import Derived.Test.YtcikahnmiiichaaDoorK1
import Derived.Test.YtcikahnmiiichaaDoorK8
import Derived.Test.YtcikahnmiiichaaDoorK9
namespace Go.Proofs.YtcikahnmiiichaaDoor.K
open List renaming setIfInBounds_toArray → vZ, set_cons_zero → yA, set_cons_succ → yB
open Go.World renaming block_lt_of_cell? → yF
open Go.Proofs.YtcikahnmiiichaaDoor.Given
open Go.RowKit Go.Proofs.YtcikahnmiiichaaDoorW.PrintWords Go.Proofs.YtcikahnmiiichaaDoorW.PrintLast Go.Proofs.YtcikahnmiiichaaDoorW.PrintMore
attribute [local go_sem] max2_int min2_int max_two min_two vW vV max_four min_four   -- for this text's walks alone
set_option linter.unusedVariables false
set_option linter.unusedSimpArgs false

/-! ### spec_FormatLog: function 47 -/
def spec_FormatLog.l0 : Nat → List (S66) → ByteArray → Int → Option (ByteArray)
 | 0, _, _, _ => none
 | k + 1, x0, x3, x4 => if x4 < (x0.length : Int) then (if x4 > 0 then (if x3.size + 1 ≤ 9223372036854775807 then (if 0 ≤ x4 then ((spec_FormatInt.f k ((rd_T66 x0 x4).f0)).bind fun t258 => (if (x3 ++ (⟨#[59]⟩ : ByteArray)).size + t258.size ≤ 9223372036854775807 then (if ((x3 ++ (⟨#[59]⟩ : ByteArray)) ++ t258).size + 1 ≤ 9223372036854775807 then ((spec_FormatOp.f k ((rd_T66 x0 x4).f1.f0) ((rd_T66 x0 x4).f1.f1) ((rd_T66 x0 x4).f1.f2) ((rd_T66 x0 x4).f1.f3) ((rd_T66 x0 x4).f1.f4) ((rd_T66 x0 x4).f1.f5)).bind fun t260 => (if (((x3 ++ (⟨#[59]⟩ : ByteArray)) ++ t258) ++ (⟨#[58]⟩ : ByteArray)).size + t260.size ≤ 9223372036854775807 then (spec_FormatLog.l0 k x0 ((((x3 ++ (⟨#[59]⟩ : ByteArray)) ++ t258) ++ (⟨#[58]⟩ : ByteArray)) ++ t260) (wrap64 (x4 + 1))) else (none))) else (none)) else (none))) else (none)) else (none)) else (if 0 ≤ x4 then ((spec_FormatInt.f k ((rd_T66 x0 x4).f0)).bind fun t262 => (if x3.size + t262.size ≤ 9223372036854775807 then (if (x3 ++ t262).size + 1 ≤ 9223372036854775807 then ((spec_FormatOp.f k ((rd_T66 x0 x4).f1.f0) ((rd_T66 x0 x4).f1.f1) ((rd_T66 x0 x4).f1.f2) ((rd_T66 x0 x4).f1.f3) ((rd_T66 x0 x4).f1.f4) ((rd_T66 x0 x4).f1.f5)).bind fun t264 => (if ((x3 ++ t262) ++ (⟨#[58]⟩ : ByteArray)).size + t264.size ≤ 9223372036854775807 then (spec_FormatLog.l0 k x0 (((x3 ++ t262) ++ (⟨#[58]⟩ : ByteArray)) ++ t264) (wrap64 (x4 + 1))) else (none))) else (none)) else (none))) else (none))) else (some x3)
def spec_FormatLog.f (k : Nat) (l0 : List (S66)) : Option (ByteArray) := (spec_IsLog.f k l0).bind fun t256 => (if t256 = true then (if (l0.length : Int) = 0 then (some (⟨#[110, 111, 110, 101]⟩ : ByteArray)) else (spec_FormatLog.l0 k l0 (⟨#[]⟩ : ByteArray) 0)) else (some (⟨#[]⟩ : ByteArray)))
theorem spec_FormatLog.mono_l : ∀ k, (∀ y0 y1 y2, uA (spec_FormatLog.l0 k y0 y1 y2) (spec_FormatLog.l0 (k + 1) y0 y1 y2))
 | 0 => fun _ _ _ r h => by simp [spec_FormatLog.l0] at h
 | k + 1 => by
  have ih0 := spec_FormatLog.mono_l k
  intro y0 y1 y2
  unfold spec_FormatLog.l0
  repeat' first
  | (with_reducible exact ih0 _ _ _)
  | (with_reducible exact spec_FormatInt.mono _ _)
  | (with_reducible exact spec_FormatOp.mono _ _ _ _ _ _ _)
  | (with_reducible exact spec_IsLog.mono _ _)
  | (with_reducible exact uA.refl _)
  | (with_reducible exact uA.none _)
  | (with_reducible refine uA.vA ?_ ?_)
  | (with_reducible refine uA.bind ?_ (fun _ => ?_))
  | exact ih0 _ _ _
  | exact uA.none _
  | refine uA.vA ?_ ?_
  | refine uA.bind ?_ (fun _ => ?_)
theorem spec_FormatLog.mono : ∀ a0 k, uA (spec_FormatLog.f k a0) (spec_FormatLog.f (k + 1) a0) := by
 intro a0 k
 have ih0 := spec_FormatLog.mono_l k
 unfold spec_FormatLog.f
 repeat' first
   | (with_reducible exact ih0 _ _ _)
   | (with_reducible exact spec_FormatInt.mono _ _)
   | (with_reducible exact spec_FormatOp.mono _ _ _ _ _ _ _)
   | (with_reducible exact spec_IsLog.mono _ _)
   | (with_reducible exact uA.refl _)
   | (with_reducible exact uA.none _)
   | (with_reducible refine uA.vA ?_ ?_)
   | (with_reducible refine uA.bind ?_ (fun _ => ?_))
   | exact ih0 _ _ _
   | exact uA.none _
   | refine uA.vA ?_ ?_
   | refine uA.bind ?_ (fun _ => ?_)
def spec_FormatLog.T11 : Bool × List (List Nat × List Nat) := (true, [([], []), ([], []), ([], []), ([1, 2], [1, 2]), ([3], [3]), ([4], [4]), ([5], [5]), ([0, 6], [0, 6]), ([7], [7]), ([], []), ([], []), ([9, 10], [9, 10]), ([11], [11]), ([12], [12]), ([13, 6], [13]), ([8, 14], [8, 14]), ([15, 14, 0, 1, 2, 3, 4, 5, 6, 7, 8, 9, 10, 11, 12, 13, 14, 15], [0, 15])])
def spec_FormatLog.B11 : List Nat := [0, 0, 0, 6, 14, 30, 62, 127, 255, 0, 0, 1536, 3584, 7680, 15998, 32767, 65535]
theorem spec_FormatLog.tab11 : rtab .any (opsOf Tryd.f47 11) = spec_FormatLog.T11 := by kernel_rfl
theorem spec_FormatLog.bits11 : waitsOk spec_FormatLog.T11.2 spec_FormatLog.B11 = true := by kernel_rfl
set_option maxHeartbeats 8000000 in
set_option maxRecDepth 100000 in
theorem spec_FormatLog.calls (k : Nat) (A0 : Option Addr) (c0 : Nat) (l0 : List (S66)) (r : ByteArray) (w : World) (hr0 : Kd.C k66 w A0 l0.length l0) (hc0 : l0.length ≤ c0) (h : spec_FormatLog.f k l0 = some r) :
  Calls Tryd.prog 47 #[.slice A0 l0.length c0] w fun e w' => e = .returned (.string r) ∧ Below w.heap.size w w' := by
 have hu64 := Tryd.underlying64
 have HR0 := Aside0.mk hr0
 have HC0 := Aside0.mk hc0
 clear hr0 hc0
 have HB := Aside0.mk (Below.refl w.heap.size w)
 have H : ((spec_IsLog.f k l0).bind fun t256 => (if t256 = true then (if (l0.length : Int) = 0 then (some (⟨#[110, 111, 110, 101]⟩ : ByteArray)) else (spec_FormatLog.l0 k l0 (⟨#[]⟩ : ByteArray) 0)) else (some (⟨#[]⟩ : ByteArray)))) = some r := h
 clear h
 replace H := Option.bind_eq_some_iff.mp H
 obtain ⟨t256, A20, H⟩ := H
 try dsimp only at H
 have A2 := Aside0.mk A20
 clear A20
 by_cases c3 : t256 = true
 rotate_left
 ·replace c3 := Bool.eq_false_iff.mpr c3
  subst c3
  try rw [if_neg (show ¬ (false = true) by decide)] at H
  obtain rfl := Option.some.inj H
  go_enter Tryd.func47, Tryd.ntmps47
  go_wp2_with (first | ((with_reducible refine uB (f := 15) rfl ?_); refine uL (some 6) Tryd.func15 #[.slice A0 l0.length c0] ?_; (with_reducible refine (spec_IsLog.calls k _ _ l0 false _ ?side1 ?side2 A2.out).mono ?_); (case side1 => exact cq16); (case side2 => exact HC0.out); rintro e w28 ⟨rfl, hb⟩; refine ⟨_, rfl, ?_⟩; replace HB := uH HB hb; (try clear hb)))
  go_ret
  exact ⟨cq5, uW⟩
 subst c3
 try rw [if_pos rfl] at H
 go_enter Tryd.func47, Tryd.ntmps47
 go_wp2_with (first | ((with_reducible refine uB (f := 15) rfl ?_); refine uL (some 6) Tryd.func15 #[.slice A0 l0.length c0] ?_; (with_reducible refine (spec_IsLog.calls k _ _ l0 true _ ?side1 ?side2 A2.out).mono ?_); (case side1 => exact cq16); (case side2 => exact HC0.out); rintro e w5 ⟨rfl, hb⟩; refine ⟨_, rfl, ?_⟩; replace HB := uH HB hb; (try clear hb); refine ?roundEnd))
 case roundEnd =>
 by_cases c4 : (l0.length : Int) = 0
 ·rw [if_pos c4] at H
  have c4b0 := beq_iff_eq.mpr c4
  have c4b1 := bne_eq_false_iff_eq.mpr c4
  clear c4
  obtain rfl := Option.some.inj H
  go_wp2
  go_ret
  exact ⟨cq5, uW⟩
 rw [if_neg c4] at H
 have c4b0 := beq_eq_false_iff_ne.mpr c4
 have c4b1 := bne_iff_ne.mpr c4
 have c4b2 : ¬ (l0 = []) := fun h_ => c4 (by rw [h_]; rfl)
 have H' := Aside0.mk H
 clear H
 go_wp2
 go_loopg [3, 4] k (fun kq v3 v4 w' => ∃ (x3_1 : ByteArray) (x4_1 : Int), v3 = .string x3_1 ∧ v4 = .int .i64 x4_1 ∧ Aside0 (spec_FormatLog.l0 kq l0 x3_1 x4_1 = some r) ∧ Aside0 (kq ≤ k) ∧ Aside0 (Below w.heap.size w w'))
 case atStart => exact ⟨((⟨#[]⟩ : ByteArray)), (0), vD, vD, H', ⟨Nat.le_refl _⟩, ⟨uW⟩⟩
 case round =>
  clear H'
  try clear c3
  try clear c4
  try clear c4b0
  try clear c4b1
  try clear c4b2
  obtain ⟨x3_1, x4_1, rfl, rfl, HA, HK1, HB⟩ := hrel
  cases gk with
  | zero => exact absurd HA.out (by simp [spec_FormatLog.l0])
  | succ k1 =>
   have H := HA.out
   clear HA
   simp only [spec_FormatLog.l0] at H
   by_cases c7 : x4_1 < (l0.length : Int)
   rotate_left
   ·rw [if_neg c7] at H
    have c7b0 := decide_eq_false c7
    clear c7
    obtain rfl := Option.some.inj H
    go_wp2
    go_ret
    exact ⟨cq5, uW⟩
   rw [if_pos c7] at H
   have c7b0 := decide_eq_true c7
   clear c7
   by_cases c8 : x4_1 > 0
   rotate_left
   ·rw [if_neg c8] at H
    have c8b0 := decide_eq_false c8
    clear c8
    obtain ⟨c19b0, H⟩ := ifD H
    replace H := Option.bind_eq_some_iff.mp H
    obtain ⟨t262, A200, H⟩ := H
    try dsimp only at H
    have A20 := Aside0.mk A200
    clear A200
    by_cases c21 : x3_1.size + t262.size ≤ 9223372036854775807
    rotate_left
    ·rw [if_neg c21] at H
     exact absurd H (by simp)
    rw [if_pos c21] at H
    have c21b0 := eq_true c21
    have c21b1 := decide_eq_true c21
    try have c21b2 : (9223372036854775807 < x3_1.size + t262.size) = False := eq_false (Nat.not_lt.2 c21)
    by_cases c22 : (x3_1 ++ t262).size + 1 ≤ 9223372036854775807
    rotate_left
    ·rw [if_neg c22] at H
     exact absurd H (by simp)
    rw [if_pos c22] at H
    have c22b0 := eq_true c22
    have c22b1 := decide_eq_true c22
    try have c22b2 : (9223372036854775807 < (x3_1 ++ t262).size + 1) = False := eq_false (Nat.not_lt.2 c22)
    have c22b3 : (9223372036854775807 < x3_1.size + t262.size + 1) = False := eq_false (Nat.not_lt.2 (by have z_ := c22; (repeat rw [ByteArray.size_append] at z_); exact z_))
    replace H := Option.bind_eq_some_iff.mp H
    obtain ⟨t264, A230, H⟩ := H
    try dsimp only at H
    have A23 := Aside0.mk A230
    clear A230
    by_cases c24 : ((x3_1 ++ t262) ++ (⟨#[58]⟩ : ByteArray)).size + t264.size ≤ 9223372036854775807
    rotate_left
    ·rw [if_neg c24] at H
     exact absurd H (by simp)
    rw [if_pos c24] at H
    have c24b0 := eq_true c24
    have c24b1 := decide_eq_true c24
    try have c24b2 : (9223372036854775807 < ((x3_1 ++ t262) ++ (⟨#[58]⟩ : ByteArray)).size + t264.size) = False := eq_false (Nat.not_lt.2 c24)
    have c24b3 : (9223372036854775807 < x3_1.size + t262.size + 1 + t264.size) = False := eq_false (Nat.not_lt.2 (by have z_ := c24; (repeat rw [ByteArray.size_append] at z_); exact z_))
    have H' := Aside0.mk H
    clear H
    try go_wp2
    replace HB := Aside0.mk (vL HB.out)
    have p261 : 0 ≤ (x4_1 : Int) := of_decide_eq_true vC
    have q261 : x4_1 < (l0.length : Int) := of_decide_eq_true vC
    obtain ⟨ad261, e261, hx261_0, hx261_1, hx261_2, hx261_3, hx261_4, hx261_5, hx261_6⟩ := at_T66 HR0.out x4_1 p261 q261
    have hw261_6 := hx261_6
    have hw261_5 := hx261_5
    have hw261_4 := hx261_4
    have hw261_3 := hx261_3
    have hw261_2 := hx261_2
    have hw261_1 := hx261_1
    have hw261_0 := hx261_0
    cases e261
    replace hx261_0 := (HB.out.cell (yF w _ hx261_0)).trans hx261_0
    replace hx261_1 := (HB.out.cell (yF w _ hx261_1)).trans hx261_1
    replace hx261_2 := (HB.out.cell (yF w _ hx261_2)).trans hx261_2
    replace hx261_3 := (HB.out.cell (yF w _ hx261_3)).trans hx261_3
    replace hx261_4 := (HB.out.cell (yF w _ hx261_4)).trans hx261_4
    replace hx261_5 := (HB.out.cell (yF w _ hx261_5)).trans hx261_5
    replace hx261_6 := (HB.out.cell (yF w _ hx261_6)).trans hx261_6
    replace p261 := eq_true p261
    replace q261 := eq_true q261
    have p263 : 0 ≤ (x4_1 : Int) := of_decide_eq_true vC
    have q263 : x4_1 < (l0.length : Int) := of_decide_eq_true vC
    obtain ⟨ad263, e263, hx263_0, hx263_1, hx263_2, hx263_3, hx263_4, hx263_5, hx263_6⟩ := at_T66 HR0.out x4_1 p263 q263
    have hw263_6 := hx263_6
    have hw263_5 := hx263_5
    have hw263_4 := hx263_4
    have hw263_3 := hx263_3
    have hw263_2 := hx263_2
    have hw263_1 := hx263_1
    have hw263_0 := hx263_0
    obtain rfl : ad261 = ad263 := (by injection e263)
    replace hx263_0 := (HB.out.cell (yF w _ hx263_0)).trans hx263_0
    replace hx263_1 := (HB.out.cell (yF w _ hx263_1)).trans hx263_1
    replace hx263_2 := (HB.out.cell (yF w _ hx263_2)).trans hx263_2
    replace hx263_3 := (HB.out.cell (yF w _ hx263_3)).trans hx263_3
    replace hx263_4 := (HB.out.cell (yF w _ hx263_4)).trans hx263_4
    replace hx263_5 := (HB.out.cell (yF w _ hx263_5)).trans hx263_5
    replace hx263_6 := (HB.out.cell (yF w _ hx263_6)).trans hx263_6
    replace p263 := eq_true p263
    replace q263 := eq_true q263
    refine start_ (n := 17) (S := fun w' => w'.cell? (ad261.add ((x4_1).toNat * 7)) = some (.int .i64 ((rd_T66 l0 x4_1).f0)) ∧ w'.cell? ⟨(ad261.add ((x4_1).toNat * 7)).block, (ad261.add ((x4_1).toNat * 7)).off + 1, none⟩ = some (.int .i64 ((rd_T66 l0 x4_1).f1.f0)) ∧ w'.cell? ⟨(ad261.add ((x4_1).toNat * 7)).block, (ad261.add ((x4_1).toNat * 7)).off + 2, none⟩ = some (.int .i64 ((rd_T66 l0 x4_1).f1.f1)) ∧ w'.cell? ⟨(ad261.add ((x4_1).toNat * 7)).block, (ad261.add ((x4_1).toNat * 7)).off + 3, none⟩ = some (.int .i64 ((rd_T66 l0 x4_1).f1.f2)) ∧ w'.cell? ⟨(ad261.add ((x4_1).toNat * 7)).block, (ad261.add ((x4_1).toNat * 7)).off + 4, none⟩ = some (.int .i64 ((rd_T66 l0 x4_1).f1.f3)) ∧ w'.cell? ⟨(ad261.add ((x4_1).toNat * 7)).block, (ad261.add ((x4_1).toNat * 7)).off + 5, none⟩ = some (.int .i64 ((rd_T66 l0 x4_1).f1.f4)) ∧ w'.cell? ⟨(ad261.add ((x4_1).toNat * 7)).block, (ad261.add ((x4_1).toNat * 7)).off + 6, none⟩ = some (.int .i64 ((rd_T66 l0 x4_1).f1.f5)) ∧ w'.cell? (ad261.add ((x4_1).toNat * 7)) = some (.int .i64 ((rd_T66 l0 x4_1).f0)) ∧ w'.cell? ⟨(ad261.add ((x4_1).toNat * 7)).block, (ad261.add ((x4_1).toNat * 7)).off + 1, none⟩ = some (.int .i64 ((rd_T66 l0 x4_1).f1.f0)) ∧ w'.cell? ⟨(ad261.add ((x4_1).toNat * 7)).block, (ad261.add ((x4_1).toNat * 7)).off + 2, none⟩ = some (.int .i64 ((rd_T66 l0 x4_1).f1.f1)) ∧ w'.cell? ⟨(ad261.add ((x4_1).toNat * 7)).block, (ad261.add ((x4_1).toNat * 7)).off + 3, none⟩ = some (.int .i64 ((rd_T66 l0 x4_1).f1.f2)) ∧ w'.cell? ⟨(ad261.add ((x4_1).toNat * 7)).block, (ad261.add ((x4_1).toNat * 7)).off + 4, none⟩ = some (.int .i64 ((rd_T66 l0 x4_1).f1.f3)) ∧ w'.cell? ⟨(ad261.add ((x4_1).toNat * 7)).block, (ad261.add ((x4_1).toNat * 7)).off + 5, none⟩ = some (.int .i64 ((rd_T66 l0 x4_1).f1.f4)) ∧ w'.cell? ⟨(ad261.add ((x4_1).toNat * 7)).block, (ad261.add ((x4_1).toNat * 7)).off + 6, none⟩ = some (.int .i64 ((rd_T66 l0 x4_1).f1.f5))) (ds := []) tb3 (by kernel_rfl) rfl rfl ⟨((HB.out.cell (yF w _ hw261_0)).trans hw261_0), ((HB.out.cell (yF w _ hw261_1)).trans hw261_1), ((HB.out.cell (yF w _ hw261_2)).trans hw261_2), ((HB.out.cell (yF w _ hw261_3)).trans hw261_3), ((HB.out.cell (yF w _ hw261_4)).trans hw261_4), ((HB.out.cell (yF w _ hw261_5)).trans hw261_5), ((HB.out.cell (yF w _ hw261_6)).trans hw261_6), ((HB.out.cell (yF w _ hw263_0)).trans hw263_0), ((HB.out.cell (yF w _ hw263_1)).trans hw263_1), ((HB.out.cell (yF w _ hw263_2)).trans hw263_2), ((HB.out.cell (yF w _ hw263_3)).trans hw263_3), ((HB.out.cell (yF w _ hw263_4)).trans hw263_4), ((HB.out.cell (yF w _ hw263_5)).trans hw263_5), ((HB.out.cell (yF w _ hw263_6)).trans hw263_6)⟩ (fun hHeld => ?_); refine with_tabW spec_FormatLog.tab11 spec_FormatLog.bits11 (fun HT_ HW_ => ?_)
    generalize wr.drew = w25 at HB hx261_0 hx261_1 hx261_2 hx261_3 hx261_4 hx261_5 hx261_6 hx263_0 hx263_1 hx263_2 hx263_3 hx263_4 hx263_5 hx263_6 hHeld ⊢
    refine uM 0 (some 21) tb4 ?_
    refine uM 1 (some 22) tb5 ?_
    refine uM 2 (some 23) tb6 ?_
    refine uM 3 (some 24) tb12 ?_
    refine uM 4 (some 25) tb13 ?_
    refine uM 9 (some 30) tb14 ?_
    refine uM 10 (some 31) tb16 ?_
    refine uM 11 (some 32) tb17 ?_
    refine uM 12 (some 33) tb18 ?_
    refine takeT 5 (some 26) tb19 ?_
    refine takeT 13 (some 34) tb20 ?_
    refine oneT 6 (some 27) tb21 (fun K hK => ?_)
    refine goesT Tryd.func90 #[.int .i64 ((rd_T66 l0 x4_1).f0)] ?_
    with_reducible refine (spec_FormatInt.calls k1 ((rd_T66 l0 x4_1).f0) t262 _ A20.out).mono ?_
    rintro e w26 ⟨rfl, hb⟩
    refine ⟨_, rfl, ?_⟩
    replace HB := uH HB hb
    (try clear hb)
    refine hK.out _ _ ⟨((HB.out.cell (yF w _ hw261_0)).trans hw261_0), ((HB.out.cell (yF w _ hw261_1)).trans hw261_1), ((HB.out.cell (yF w _ hw261_2)).trans hw261_2), ((HB.out.cell (yF w _ hw261_3)).trans hw261_3), ((HB.out.cell (yF w _ hw261_4)).trans hw261_4), ((HB.out.cell (yF w _ hw261_5)).trans hw261_5), ((HB.out.cell (yF w _ hw261_6)).trans hw261_6), ((HB.out.cell (yF w _ hw263_0)).trans hw263_0), ((HB.out.cell (yF w _ hw263_1)).trans hw263_1), ((HB.out.cell (yF w _ hw263_2)).trans hw263_2), ((HB.out.cell (yF w _ hw263_3)).trans hw263_3), ((HB.out.cell (yF w _ hw263_4)).trans hw263_4), ((HB.out.cell (yF w _ hw263_5)).trans hw263_5), ((HB.out.cell (yF w _ hw263_6)).trans hw263_6)⟩ (fun hHeld => ?_)
    clear hK K
    refine vH (some 27) ?_
    refine uM 7 (some 28) tb22 ?_
    refine uM 8 (some 29) tb7 ?_
    refine oneT 14 (some 35) tb8 (fun K hK => ?_)
    refine goesT Tryd.func91 #[.agg #[.int .i64 ((rd_T66 l0 x4_1).f1.f0), .int .i64 ((rd_T66 l0 x4_1).f1.f1), .int .i64 ((rd_T66 l0 x4_1).f1.f2), .int .i64 ((rd_T66 l0 x4_1).f1.f3), .int .i64 ((rd_T66 l0 x4_1).f1.f4), .int .i64 ((rd_T66 l0 x4_1).f1.f5)]] ?_
    with_reducible refine (spec_FormatOp.calls k1 ((rd_T66 l0 x4_1).f1.f0) ((rd_T66 l0 x4_1).f1.f1) ((rd_T66 l0 x4_1).f1.f2) ((rd_T66 l0 x4_1).f1.f3) ((rd_T66 l0 x4_1).f1.f4) ((rd_T66 l0 x4_1).f1.f5) t264 _ A23.out).mono ?_
    rintro e w27 ⟨rfl, hb⟩
    refine ⟨_, rfl, ?_⟩
    replace HB := uH HB hb
    (try clear hb)
    refine hK.out _ _ ⟨((HB.out.cell (yF w _ hw261_0)).trans hw261_0), ((HB.out.cell (yF w _ hw261_1)).trans hw261_1), ((HB.out.cell (yF w _ hw261_2)).trans hw261_2), ((HB.out.cell (yF w _ hw261_3)).trans hw261_3), ((HB.out.cell (yF w _ hw261_4)).trans hw261_4), ((HB.out.cell (yF w _ hw261_5)).trans hw261_5), ((HB.out.cell (yF w _ hw261_6)).trans hw261_6), ((HB.out.cell (yF w _ hw263_0)).trans hw263_0), ((HB.out.cell (yF w _ hw263_1)).trans hw263_1), ((HB.out.cell (yF w _ hw263_2)).trans hw263_2), ((HB.out.cell (yF w _ hw263_3)).trans hw263_3), ((HB.out.cell (yF w _ hw263_4)).trans hw263_4), ((HB.out.cell (yF w _ hw263_5)).trans hw263_5), ((HB.out.cell (yF w _ hw263_6)).trans hw263_6)⟩ (fun hHeld => ?_)
    clear hK K
    refine vH (some 35) ?_
    refine uM 15 (some 36) tb9 ?_
    refine uM 16 (some 3) tb10 ?_
    refine done_ (done_of HT_.out (by kernel_rfl)) ?_
    try go_wp2
    go_roundg k1
    case measure => have := HK1.out; omega
    case rel => exact ⟨(((x3_1 ++ t262) ++ (⟨#[58]⟩ : ByteArray)) ++ t264), (wrap64 (x4_1 + 1)), vD, vD, H', ⟨by have := HK1.out; omega⟩, ⟨uW⟩⟩
   rw [if_pos c8] at H
   have c8b0 := decide_eq_true c8
   clear c8
   by_cases c9 : x3_1.size + 1 ≤ 9223372036854775807
   rotate_left
   ·rw [if_neg c9] at H
    exact absurd H (by simp)
   rw [if_pos c9] at H
   have c9b0 := eq_true c9
   have c9b1 := decide_eq_true c9
   try have c9b2 : (9223372036854775807 < x3_1.size + 1) = False := eq_false (Nat.not_lt.2 c9)
   obtain ⟨c10b0, H⟩ := ifD H
   replace H := Option.bind_eq_some_iff.mp H
   obtain ⟨t258, A110, H⟩ := H
   try dsimp only at H
   have A11 := Aside0.mk A110
   clear A110
   by_cases c12 : (x3_1 ++ (⟨#[59]⟩ : ByteArray)).size + t258.size ≤ 9223372036854775807
   rotate_left
   ·rw [if_neg c12] at H
    exact absurd H (by simp)
   rw [if_pos c12] at H
   have c12b0 := eq_true c12
   have c12b1 := decide_eq_true c12
   try have c12b2 : (9223372036854775807 < (x3_1 ++ (⟨#[59]⟩ : ByteArray)).size + t258.size) = False := eq_false (Nat.not_lt.2 c12)
   have c12b3 : (9223372036854775807 < x3_1.size + 1 + t258.size) = False := eq_false (Nat.not_lt.2 (by have z_ := c12; (repeat rw [ByteArray.size_append] at z_); exact z_))
   by_cases c13 : ((x3_1 ++ (⟨#[59]⟩ : ByteArray)) ++ t258).size + 1 ≤ 9223372036854775807
   rotate_left
   ·rw [if_neg c13] at H
    exact absurd H (by simp)
   rw [if_pos c13] at H
   have c13b0 := eq_true c13
   have c13b1 := decide_eq_true c13
   try have c13b2 : (9223372036854775807 < ((x3_1 ++ (⟨#[59]⟩ : ByteArray)) ++ t258).size + 1) = False := eq_false (Nat.not_lt.2 c13)
   have c13b3 : (9223372036854775807 < x3_1.size + 1 + t258.size + 1) = False := eq_false (Nat.not_lt.2 (by have z_ := c13; (repeat rw [ByteArray.size_append] at z_); exact z_))
   replace H := Option.bind_eq_some_iff.mp H
   obtain ⟨t260, A140, H⟩ := H
   try dsimp only at H
   have A14 := Aside0.mk A140
   clear A140
   by_cases c15 : (((x3_1 ++ (⟨#[59]⟩ : ByteArray)) ++ t258) ++ (⟨#[58]⟩ : ByteArray)).size + t260.size ≤ 9223372036854775807
   rotate_left
   ·rw [if_neg c15] at H
    exact absurd H (by simp)
   rw [if_pos c15] at H
   have c15b0 := eq_true c15
   have c15b1 := decide_eq_true c15
   try have c15b2 : (9223372036854775807 < (((x3_1 ++ (⟨#[59]⟩ : ByteArray)) ++ t258) ++ (⟨#[58]⟩ : ByteArray)).size + t260.size) = False := eq_false (Nat.not_lt.2 c15)
   have c15b3 : (9223372036854775807 < x3_1.size + 1 + t258.size + 1 + t260.size) = False := eq_false (Nat.not_lt.2 (by have z_ := c15; (repeat rw [ByteArray.size_append] at z_); exact z_))
   have H' := Aside0.mk H
   clear H
   try go_wp2
   replace HB := Aside0.mk (vL HB.out)
   have p257 : 0 ≤ (x4_1 : Int) := of_decide_eq_true vC
   have q257 : x4_1 < (l0.length : Int) := of_decide_eq_true vC
   obtain ⟨ad257, e257, hx257_0, hx257_1, hx257_2, hx257_3, hx257_4, hx257_5, hx257_6⟩ := at_T66 HR0.out x4_1 p257 q257
   have hw257_6 := hx257_6
   have hw257_5 := hx257_5
   have hw257_4 := hx257_4
   have hw257_3 := hx257_3
   have hw257_2 := hx257_2
   have hw257_1 := hx257_1
   have hw257_0 := hx257_0
   cases e257
   replace hx257_0 := (HB.out.cell (yF w _ hx257_0)).trans hx257_0
   replace hx257_1 := (HB.out.cell (yF w _ hx257_1)).trans hx257_1
   replace hx257_2 := (HB.out.cell (yF w _ hx257_2)).trans hx257_2
   replace hx257_3 := (HB.out.cell (yF w _ hx257_3)).trans hx257_3
   replace hx257_4 := (HB.out.cell (yF w _ hx257_4)).trans hx257_4
   replace hx257_5 := (HB.out.cell (yF w _ hx257_5)).trans hx257_5
   replace hx257_6 := (HB.out.cell (yF w _ hx257_6)).trans hx257_6
   replace p257 := eq_true p257
   replace q257 := eq_true q257
   have p259 : 0 ≤ (x4_1 : Int) := of_decide_eq_true vC
   have q259 : x4_1 < (l0.length : Int) := of_decide_eq_true vC
   obtain ⟨ad259, e259, hx259_0, hx259_1, hx259_2, hx259_3, hx259_4, hx259_5, hx259_6⟩ := at_T66 HR0.out x4_1 p259 q259
   have hw259_6 := hx259_6
   have hw259_5 := hx259_5
   have hw259_4 := hx259_4
   have hw259_3 := hx259_3
   have hw259_2 := hx259_2
   have hw259_1 := hx259_1
   have hw259_0 := hx259_0
   obtain rfl : ad257 = ad259 := (by injection e259)
   replace hx259_0 := (HB.out.cell (yF w _ hx259_0)).trans hx259_0
   replace hx259_1 := (HB.out.cell (yF w _ hx259_1)).trans hx259_1
   replace hx259_2 := (HB.out.cell (yF w _ hx259_2)).trans hx259_2
   replace hx259_3 := (HB.out.cell (yF w _ hx259_3)).trans hx259_3
   replace hx259_4 := (HB.out.cell (yF w _ hx259_4)).trans hx259_4
   replace hx259_5 := (HB.out.cell (yF w _ hx259_5)).trans hx259_5
   replace hx259_6 := (HB.out.cell (yF w _ hx259_6)).trans hx259_6
   replace p259 := eq_true p259
   replace q259 := eq_true q259
   refine start_ (n := 17) (S := fun w' => w'.cell? (ad257.add ((x4_1).toNat * 7)) = some (.int .i64 ((rd_T66 l0 x4_1).f0)) ∧ w'.cell? ⟨(ad257.add ((x4_1).toNat * 7)).block, (ad257.add ((x4_1).toNat * 7)).off + 1, none⟩ = some (.int .i64 ((rd_T66 l0 x4_1).f1.f0)) ∧ w'.cell? ⟨(ad257.add ((x4_1).toNat * 7)).block, (ad257.add ((x4_1).toNat * 7)).off + 2, none⟩ = some (.int .i64 ((rd_T66 l0 x4_1).f1.f1)) ∧ w'.cell? ⟨(ad257.add ((x4_1).toNat * 7)).block, (ad257.add ((x4_1).toNat * 7)).off + 3, none⟩ = some (.int .i64 ((rd_T66 l0 x4_1).f1.f2)) ∧ w'.cell? ⟨(ad257.add ((x4_1).toNat * 7)).block, (ad257.add ((x4_1).toNat * 7)).off + 4, none⟩ = some (.int .i64 ((rd_T66 l0 x4_1).f1.f3)) ∧ w'.cell? ⟨(ad257.add ((x4_1).toNat * 7)).block, (ad257.add ((x4_1).toNat * 7)).off + 5, none⟩ = some (.int .i64 ((rd_T66 l0 x4_1).f1.f4)) ∧ w'.cell? ⟨(ad257.add ((x4_1).toNat * 7)).block, (ad257.add ((x4_1).toNat * 7)).off + 6, none⟩ = some (.int .i64 ((rd_T66 l0 x4_1).f1.f5)) ∧ w'.cell? (ad257.add ((x4_1).toNat * 7)) = some (.int .i64 ((rd_T66 l0 x4_1).f0)) ∧ w'.cell? ⟨(ad257.add ((x4_1).toNat * 7)).block, (ad257.add ((x4_1).toNat * 7)).off + 1, none⟩ = some (.int .i64 ((rd_T66 l0 x4_1).f1.f0)) ∧ w'.cell? ⟨(ad257.add ((x4_1).toNat * 7)).block, (ad257.add ((x4_1).toNat * 7)).off + 2, none⟩ = some (.int .i64 ((rd_T66 l0 x4_1).f1.f1)) ∧ w'.cell? ⟨(ad257.add ((x4_1).toNat * 7)).block, (ad257.add ((x4_1).toNat * 7)).off + 3, none⟩ = some (.int .i64 ((rd_T66 l0 x4_1).f1.f2)) ∧ w'.cell? ⟨(ad257.add ((x4_1).toNat * 7)).block, (ad257.add ((x4_1).toNat * 7)).off + 4, none⟩ = some (.int .i64 ((rd_T66 l0 x4_1).f1.f3)) ∧ w'.cell? ⟨(ad257.add ((x4_1).toNat * 7)).block, (ad257.add ((x4_1).toNat * 7)).off + 5, none⟩ = some (.int .i64 ((rd_T66 l0 x4_1).f1.f4)) ∧ w'.cell? ⟨(ad257.add ((x4_1).toNat * 7)).block, (ad257.add ((x4_1).toNat * 7)).off + 6, none⟩ = some (.int .i64 ((rd_T66 l0 x4_1).f1.f5))) (ds := []) tb3 (by kernel_rfl) rfl rfl ⟨((HB.out.cell (yF w _ hw257_0)).trans hw257_0), ((HB.out.cell (yF w _ hw257_1)).trans hw257_1), ((HB.out.cell (yF w _ hw257_2)).trans hw257_2), ((HB.out.cell (yF w _ hw257_3)).trans hw257_3), ((HB.out.cell (yF w _ hw257_4)).trans hw257_4), ((HB.out.cell (yF w _ hw257_5)).trans hw257_5), ((HB.out.cell (yF w _ hw257_6)).trans hw257_6), ((HB.out.cell (yF w _ hw259_0)).trans hw259_0), ((HB.out.cell (yF w _ hw259_1)).trans hw259_1), ((HB.out.cell (yF w _ hw259_2)).trans hw259_2), ((HB.out.cell (yF w _ hw259_3)).trans hw259_3), ((HB.out.cell (yF w _ hw259_4)).trans hw259_4), ((HB.out.cell (yF w _ hw259_5)).trans hw259_5), ((HB.out.cell (yF w _ hw259_6)).trans hw259_6)⟩ (fun hHeld => ?_); refine with_tabW spec_FormatLog.tab11 spec_FormatLog.bits11 (fun HT_ HW_ => ?_)
   generalize wr.drew = w16 at HB hx257_0 hx257_1 hx257_2 hx257_3 hx257_4 hx257_5 hx257_6 hx259_0 hx259_1 hx259_2 hx259_3 hx259_4 hx259_5 hx259_6 hHeld ⊢
   refine uM 0 (some 21) tb4 ?_
   refine uM 1 (some 22) tb5 ?_
   refine uM 2 (some 23) tb6 ?_
   refine uM 3 (some 24) tb12 ?_
   refine uM 4 (some 25) tb13 ?_
   refine uM 9 (some 30) tb14 ?_
   refine uM 10 (some 31) tb16 ?_
   refine uM 11 (some 32) tb17 ?_
   refine uM 12 (some 33) tb18 ?_
   refine takeT 5 (some 26) tb19 ?_
   refine takeT 13 (some 34) tb20 ?_
   refine oneT 6 (some 27) tb21 (fun K hK => ?_)
   refine goesT Tryd.func90 #[.int .i64 ((rd_T66 l0 x4_1).f0)] ?_
   with_reducible refine (spec_FormatInt.calls k1 ((rd_T66 l0 x4_1).f0) t258 _ A11.out).mono ?_
   rintro e w17 ⟨rfl, hb⟩
   refine ⟨_, rfl, ?_⟩
   replace HB := uH HB hb
   (try clear hb)
   refine hK.out _ _ ⟨((HB.out.cell (yF w _ hw257_0)).trans hw257_0), ((HB.out.cell (yF w _ hw257_1)).trans hw257_1), ((HB.out.cell (yF w _ hw257_2)).trans hw257_2), ((HB.out.cell (yF w _ hw257_3)).trans hw257_3), ((HB.out.cell (yF w _ hw257_4)).trans hw257_4), ((HB.out.cell (yF w _ hw257_5)).trans hw257_5), ((HB.out.cell (yF w _ hw257_6)).trans hw257_6), ((HB.out.cell (yF w _ hw259_0)).trans hw259_0), ((HB.out.cell (yF w _ hw259_1)).trans hw259_1), ((HB.out.cell (yF w _ hw259_2)).trans hw259_2), ((HB.out.cell (yF w _ hw259_3)).trans hw259_3), ((HB.out.cell (yF w _ hw259_4)).trans hw259_4), ((HB.out.cell (yF w _ hw259_5)).trans hw259_5), ((HB.out.cell (yF w _ hw259_6)).trans hw259_6)⟩ (fun hHeld => ?_)
   clear hK K
   refine vH (some 27) ?_
   refine uM 7 (some 28) tb22 ?_
   refine uM 8 (some 29) tb7 ?_
   refine oneT 14 (some 35) tb8 (fun K hK => ?_)
   refine goesT Tryd.func91 #[.agg #[.int .i64 ((rd_T66 l0 x4_1).f1.f0), .int .i64 ((rd_T66 l0 x4_1).f1.f1), .int .i64 ((rd_T66 l0 x4_1).f1.f2), .int .i64 ((rd_T66 l0 x4_1).f1.f3), .int .i64 ((rd_T66 l0 x4_1).f1.f4), .int .i64 ((rd_T66 l0 x4_1).f1.f5)]] ?_
   with_reducible refine (spec_FormatOp.calls k1 ((rd_T66 l0 x4_1).f1.f0) ((rd_T66 l0 x4_1).f1.f1) ((rd_T66 l0 x4_1).f1.f2) ((rd_T66 l0 x4_1).f1.f3) ((rd_T66 l0 x4_1).f1.f4) ((rd_T66 l0 x4_1).f1.f5) t260 _ A14.out).mono ?_
   rintro e w18 ⟨rfl, hb⟩
   refine ⟨_, rfl, ?_⟩
   replace HB := uH HB hb
   (try clear hb)
   refine hK.out _ _ ⟨((HB.out.cell (yF w _ hw257_0)).trans hw257_0), ((HB.out.cell (yF w _ hw257_1)).trans hw257_1), ((HB.out.cell (yF w _ hw257_2)).trans hw257_2), ((HB.out.cell (yF w _ hw257_3)).trans hw257_3), ((HB.out.cell (yF w _ hw257_4)).trans hw257_4), ((HB.out.cell (yF w _ hw257_5)).trans hw257_5), ((HB.out.cell (yF w _ hw257_6)).trans hw257_6), ((HB.out.cell (yF w _ hw259_0)).trans hw259_0), ((HB.out.cell (yF w _ hw259_1)).trans hw259_1), ((HB.out.cell (yF w _ hw259_2)).trans hw259_2), ((HB.out.cell (yF w _ hw259_3)).trans hw259_3), ((HB.out.cell (yF w _ hw259_4)).trans hw259_4), ((HB.out.cell (yF w _ hw259_5)).trans hw259_5), ((HB.out.cell (yF w _ hw259_6)).trans hw259_6)⟩ (fun hHeld => ?_)
   clear hK K
   refine vH (some 35) ?_
   refine uM 15 (some 36) tb9 ?_
   refine uM 16 (some 3) tb10 ?_
   refine done_ (done_of HT_.out (by kernel_rfl)) ?_
   try go_wp2
   go_roundg k1
   case measure => have := HK1.out; omega
   case rel => exact ⟨((((x3_1 ++ (⟨#[59]⟩ : ByteArray)) ++ t258) ++ (⟨#[58]⟩ : ByteArray)) ++ t260), (wrap64 (x4_1 + 1)), vD, vD, H', ⟨by have := HK1.out; omega⟩, ⟨uW⟩⟩

/-! ### spec_DigestList: function 11 -/
def spec_DigestList.l0 : Nat → List (S66) → List Int → Int → Int → Option (List Int)
 | 0, _, _, _, _ => none
 | k + 1, x0, x3, x4, x5 => if x5 < (x0.length : Int) then (if 0 ≤ x5 then (if x5 ≤ (wrap64 (x5 + 1)) then (if (wrap64 (x5 + 1)) ≤ (x0.length : Int) then ((spec_FormatLog.f k ((x0.take ((wrap64 (x5 + 1)) : Int).toNat).drop (x5 : Int).toNat)).bind fun t276 => ((spec_Checksum.f k t276).bind fun t277 => (if x3.length < 17592186044416 then (spec_DigestList.l0 k x0 (x3 ++ [Int.tmod (wrap64 ((wrap64 (x4 * 31)) + t277)) 9973]) (Int.tmod (wrap64 ((wrap64 (x4 * 31)) + t277)) 9973) (wrap64 (x5 + 1))) else (none)))) else (none)) else (none)) else (none)) else (some x3)
def spec_DigestList.f (k : Nat) (l0 : List (S66)) : Option (List Int) := (some (([] : List Int) : List Int)).bind fun y265 => ((spec_IsLog.f k l0).bind fun t268 => (if t268 = true then (if y265.length < 17592186044416 then (spec_DigestList.l0 k l0 (y265 ++ [11]) 11 0) else (none)) else (some y265)))
theorem spec_DigestList.mono_l : ∀ k, (∀ y0 y1 y2 y3, uA (spec_DigestList.l0 k y0 y1 y2 y3) (spec_DigestList.l0 (k + 1) y0 y1 y2 y3))
 | 0 => fun _ _ _ _ r h => by simp [spec_DigestList.l0] at h
 | k + 1 => by
  have ih0 := spec_DigestList.mono_l k
  intro y0 y1 y2 y3
  unfold spec_DigestList.l0
  repeat' first
  | (with_reducible exact ih0 _ _ _ _)
  | (with_reducible exact spec_Checksum.mono _ _)
  | (with_reducible exact spec_FormatLog.mono _ _)
  | (with_reducible exact spec_IsLog.mono _ _)
  | (with_reducible exact uA.refl _)
  | (with_reducible exact uA.none _)
  | (with_reducible refine uA.vA ?_ ?_)
  | (with_reducible refine uA.bind ?_ (fun _ => ?_))
  | exact ih0 _ _ _ _
  | exact uA.none _
  | refine uA.vA ?_ ?_
  | refine uA.bind ?_ (fun _ => ?_)
theorem spec_DigestList.mono : ∀ a0 k, uA (spec_DigestList.f k a0) (spec_DigestList.f (k + 1) a0) := by
 intro a0 k
 have ih0 := spec_DigestList.mono_l k
 unfold spec_DigestList.f
 repeat' first
   | (with_reducible exact ih0 _ _ _ _)
   | (with_reducible exact spec_Checksum.mono _ _)
   | (with_reducible exact spec_FormatLog.mono _ _)
   | (with_reducible exact spec_IsLog.mono _ _)
   | (with_reducible exact uA.refl _)
   | (with_reducible exact uA.none _)
   | (with_reducible refine uA.vA ?_ ?_)
   | (with_reducible refine uA.bind ?_ (fun _ => ?_))
   | exact ih0 _ _ _ _
   | exact uA.none _
   | refine uA.vA ?_ ?_
   | refine uA.bind ?_ (fun _ => ?_)
set_option maxHeartbeats 8000000 in
set_option maxRecDepth 100000 in
theorem spec_DigestList.calls (k : Nat) (A0 : Option Addr) (c0 : Nat) (l0 : List (S66)) (r : List Int) (w : World) (hr0 : Kd.C k66 w A0 l0.length l0) (hc0 : l0.length ≤ c0) (h : spec_DigestList.f k l0 = some r) :
  Calls Tryd.prog 11 #[.slice A0 l0.length c0] w fun e w' => ∃ v0_ : Value, e = .returned (v0_) ∧ Kd.R (Kd.int .i64) 3 w' w.heap.size (fun _ => True) v0_ r ∧ Below w.heap.size w w' := by
 have HR0 := Aside0.mk hr0
 have HC0 := Aside0.mk hc0
 clear hr0 hc0
 have HB := Aside0.mk (Below.refl w.heap.size w)
 have H : ((some (([] : List Int) : List Int)).bind fun y265 => ((spec_IsLog.f k l0).bind fun t268 => (if t268 = true then (if y265.length < 17592186044416 then (spec_DigestList.l0 k l0 (y265 ++ [11]) 11 0) else (none)) else (some y265)))) = some r := h
 clear h
 obtain ⟨y265, hy265⟩ : ∃ y_ : List Int, y_ = (([] : List Int)) := ⟨_, rfl⟩
 replace H : ((spec_IsLog.f k l0).bind fun t268 => (if t268 = true then (if y265.length < 17592186044416 then (spec_DigestList.l0 k l0 (y265 ++ [11]) 11 0) else (none)) else (some y265))) = some r := rpl hy265 H
 have Ny265 := Aside0.mk hy265
 clear hy265
 replace H := Option.bind_eq_some_iff.mp H
 obtain ⟨t268, A20, H⟩ := H
 try dsimp only at H
 have A2 := Aside0.mk A20
 clear A20
 by_cases c3 : t268 = true
 rotate_left
 ·replace c3 := Bool.eq_false_iff.mpr c3
  subst c3
  try rw [if_neg (show ¬ (false = true) by decide)] at H
  obtain rfl := Option.some.inj H
  go_enter Tryd.func11, Tryd.ntmps11
  go_wp2_with (first | ((with_reducible refine uQ (N := 6) rfl ?_); refine Kd.R_lit (Kd.int .i64) _ 3 ?hg (N := 6) ?hd (xs := ([] : List Int)) (inner := []) (ok := fun _ => True) (okp := fun _ => True) ?hr ?hp (fun _ hk => hk) trivial (Below.refl _ _) (Nat.le_refl _) (by simp) ?_; (case hd => rfl); (case hg => rfl); (case hr => first | (go_simp; done) | (go_simp; rfl)); (case hp => exact (Reps.none _ _)); intro v266 w19 ho20 hb hg_ hnew_; clear hg_ hnew_; (first | rw [← Ny265.out] at ho20 | (simp only [Int.reduceToNat] at ho20; rw [← Ny265.out] at ho20)); have HO267 := Aside0.mk (Kd.uN ho20 (uR uW)); replace HB := uH HB hb; clear hb ho20) | ((with_reducible refine uB (f := 15) rfl ?_); refine uL (some 8) Tryd.func15 #[.slice A0 l0.length c0] ?_; (with_reducible refine (spec_IsLog.calls k _ _ l0 false _ ?side1 ?side2 A2.out).mono ?_); (case side1 => exact cq12); (case side2 => exact HC0.out); rintro e w21 ⟨rfl, hb⟩; refine ⟨_, rfl, ?_⟩; replace HO267 := Kd.tR HO267 hb; replace HB := uH HB hb; (try clear hb)))
  go_ret
  exact ⟨_, cq5, by (with_reducible repeat (first | apply Kd.uK | apply Kd.uJ | apply Kd.uO)); exact HO267.out, uW⟩
 subst c3
 try rw [if_pos rfl] at H
 obtain ⟨LMc4, H⟩ := ifL H
 obtain ⟨y269, hy269⟩ : ∃ y_ : List Int, y_ = (y265 ++ [11]) := ⟨_, rfl⟩
 replace H : (spec_DigestList.l0 k l0 y269 11 0) = some r := rpl hy269 H
 have Ny269 := Aside0.mk hy269
 clear hy269
 have H' := Aside0.mk H
 clear H
 go_enter Tryd.func11, Tryd.ntmps11
 go_wp2_with (first | ((with_reducible refine uQ (N := 6) rfl ?_); refine Kd.R_lit (Kd.int .i64) _ 3 ?hg (N := 6) ?hd (xs := ([] : List Int)) (inner := []) (ok := fun _ => True) (okp := fun _ => True) ?hr ?hp (fun _ hk => hk) trivial (Below.refl _ _) (Nat.le_refl _) (by simp) ?_; (case hd => rfl); (case hg => rfl); (case hr => first | (go_simp; done) | (go_simp; rfl)); (case hp => exact (Reps.none _ _)); intro v266 w5 ho6 hb hg_ hnew_; clear hg_ hnew_; (first | rw [← Ny265.out] at ho6 | (simp only [Int.reduceToNat] at ho6; rw [← Ny265.out] at ho6)); have HO267 := Aside0.mk (Kd.uN ho6 (uR uW)); replace HB := uH HB hb; clear hb ho6) | ((with_reducible refine uB (f := 15) rfl ?_); refine uL (some 8) Tryd.func15 #[.slice A0 l0.length c0] ?_; (with_reducible refine (spec_IsLog.calls k _ _ l0 true _ ?side1 ?side2 A2.out).mono ?_); (case side1 => exact cq12); (case side2 => exact HC0.out); rintro e w7 ⟨rfl, hb⟩; refine ⟨_, rfl, ?_⟩; replace HO267 := Kd.tR HO267 hb; replace HB := uH HB hb; (try clear hb)) | ((with_reducible refine gate_builtin (b := .append) (xs := #[.tmp 11, .tmp 13]) rfl ?_); at_builtin; refine Kd.R_append (Kd.int .i64) (w0 := w) w.heap.size rfl (.tmp 11) (.tmp 13) 27 3 (.int .i64 0) 8 rfl Tryd.underlying27 info3 rfl (by decide) (by omega) v266 y265 11 [.int .i64 11] (fun _ => True) (fun _ => False) rfl rfl ?aP (fun _ hk => hk.elim) ?aF ?aO ?aB ?aS ?aL ?_; (case aP => exact rfl); (case aB => exact cq36); (case aF => exact (fun _ _ => trivial)); (case aO => exact (uT HO267.out)); (case aS => exact cq30); (case aL => have := LMc4.out; omega); intro v270 w8 ho hb hg hat; rw [← Ny269.out] at ho; have n0_ := Aside0.mk (hb); have n1_ := Aside0.mk (ho); clear HB; clear HO267; have HB := n0_; have HO271 := n1_; clear n0_ n1_; clear ho hb hg hat))
 go_loopg [3, 4, 5] k (fun kq v3 v4 v5 w' => ∃ (x3_1 : List Int) (x4_1 : Int) (x5_1 : Int), v4 = .int .i64 x4_1 ∧ v5 = .int .i64 x5_1 ∧ Aside0 (spec_DigestList.l0 kq l0 x3_1 x4_1 x5_1 = some r) ∧ Aside0 (kq ≤ k) ∧ Aside0 (Kd.R (Kd.int .i64) 3 w' w.heap.size (fun _ => True) v3 x3_1) ∧ Aside0 (Below w.heap.size w w'))
 case atStart => exact ⟨(y269), (11), (0), vD, vD, H', ⟨Nat.le_refl _⟩, ⟨by (with_reducible repeat (first | apply Kd.uK | apply Kd.uJ | apply Kd.uO)); exact HO271.out⟩, ⟨uW⟩⟩
 case round =>
  clear H'
  try clear c3
  obtain ⟨x3_1, x4_1, x5_1, rfl, rfl, HA, HK1, HO_3, HB⟩ := hrel
  cases gk with
  | zero => exact absurd HA.out (by simp [spec_DigestList.l0])
  | succ k1 =>
   have H := HA.out
   clear HA
   simp only [spec_DigestList.l0] at H
   by_cases c9 : x5_1 < (l0.length : Int)
   rotate_left
   ·rw [if_neg c9] at H
    have c9b0 := decide_eq_false c9
    clear c9
    obtain rfl := Option.some.inj H
    go_wp2
    go_ret
    exact ⟨_, cq5, by (with_reducible repeat (first | apply Kd.uK | apply Kd.uJ | apply Kd.uO)); exact HO_3.out, uW⟩
   rw [if_pos c9] at H
   have c9b0 := decide_eq_true c9
   clear c9
   by_cases c10 : 0 ≤ x5_1
   rotate_left
   ·rw [if_neg c10] at H
    exact absurd H (by simp)
   rw [if_pos c10] at H
   have c10b0 := eq_true c10
   have c10b1 := decide_eq_true c10
   clear c10
   by_cases c11 : x5_1 ≤ (wrap64 (x5_1 + 1))
   rotate_left
   ·rw [if_neg c11] at H
    exact absurd H (by simp)
   rw [if_pos c11] at H
   have c11b0 := eq_true c11
   have c11b1 := decide_eq_true c11
   by_cases c12 : (wrap64 (x5_1 + 1)) ≤ (l0.length : Int)
   rotate_left
   ·rw [if_neg c12] at H
    exact absurd H (by simp)
   rw [if_pos c12] at H
   have c12b0 := eq_true c12
   have c12b1 := decide_eq_true c12
   obtain ⟨y272, hy272⟩ : ∃ y_ : List (S66), y_ = ((l0.take ((wrap64 (x5_1 + 1)) : Int).toNat).drop (x5_1 : Int).toNat) := ⟨_, rfl⟩
   replace H : ((spec_FormatLog.f k1 y272).bind fun t276 => ((spec_Checksum.f k1 t276).bind fun t277 => (if x3_1.length < 17592186044416 then (spec_DigestList.l0 k1 l0 (x3_1 ++ [Int.tmod (wrap64 ((wrap64 (x4_1 * 31)) + t277)) 9973]) (Int.tmod (wrap64 ((wrap64 (x4_1 * 31)) + t277)) 9973) (wrap64 (x5_1 + 1))) else (none)))) = some r := rpl hy272 H
   have Ny272 := Aside0.mk hy272
   clear hy272
   replace H := Option.bind_eq_some_iff.mp H
   obtain ⟨t276, A130, H⟩ := H
   try dsimp only at H
   have A13 := Aside0.mk A130
   clear A130
   replace H := Option.bind_eq_some_iff.mp H
   obtain ⟨t277, A140, H⟩ := H
   try dsimp only at H
   have A14 := Aside0.mk A140
   clear A140
   obtain ⟨LMc15, H⟩ := ifL H
   obtain ⟨y278, hy278⟩ : ∃ y_ : List Int, y_ = (x3_1 ++ [Int.tmod (wrap64 ((wrap64 (x4_1 * 31)) + t277)) 9973]) := ⟨_, rfl⟩
   replace H : (spec_DigestList.l0 k1 l0 y278 (Int.tmod (wrap64 ((wrap64 (x4_1 * 31)) + t277)) 9973) (wrap64 (x5_1 + 1))) = some r := rpl hy278 H
   have Ny278 := Aside0.mk hy278
   clear hy278
   have H' := Aside0.mk H
   clear H
   have q16 : ((wrap64 (x5_1 + 1)) : Int) ≤ ((l0.length : Int) : Int) := of_decide_eq_true vC
   obtain ⟨i016, hi016, _, hsz16, _⟩ := info_parts info66
   have hroom16 : l0.length ≤ c0 := HC0.out
   have hC16 : Kd.C k66 _ A0 l0.length l0 := HR0.out
   have ql16 : (x5_1 : Int) ≤ ((wrap64 (x5_1 + 1)) : Int) := of_decide_eq_true vC
   have q016 : (0 : Int) ≤ (x5_1 : Int) := of_decide_eq_true vC
   have hcut16 := cut_mid (P := Tryd.prog) 24 66 .i64 .i64 Tryd.underlying24 hi016 7 hsz16 A0 l0.length c0 x5_1 (wrap64 (x5_1 + 1)) q016 ql16 q16 hroom16
   have hr16 := Kd.C_mid (lo := (x5_1 : Int).toNat) (hi := ((wrap64 (x5_1 + 1)) : Int).toNat) (c := c0) hC16 (by omega) (by omega) hroom16
   obtain ⟨A16, hA16⟩ : ∃ A1, A1 = (if c0 = (x5_1 : Int).toNat then A0 else (A0 : Option Addr).map (·.add ((x5_1 : Int).toNat * 7))) := ⟨_, rfl⟩
   obtain ⟨c16, hc16⟩ : ∃ c1, c1 = c0 - (x5_1 : Int).toNat := ⟨_, rfl⟩
   have hy16 : y272.length = ((wrap64 (x5_1 + 1)) : Int).toNat - (x5_1 : Int).toNat := (by rw [Ny272.out, List.length_drop, List.length_take] <;> omega)
   rw [show ((l0).take ((wrap64 (x5_1 + 1)) : Int).toNat).drop (x5_1 : Int).toNat = y272 from Ny272.out.symm] at hr16
   replace hr16 : Kd.C k66 _ A16 y272.length y272 := (by rw [hA16]; exact hr16)
   rw [← hy16, ← hA16, ← hc16] at hcut16
   have HR275 := Aside0.mk hr16
   have HC275 := Aside0.mk (show y272.length ≤ c16 from by rw [hy16, hc16]; exact Nat.sub_le_sub_right (Nat.le_trans (by omega) hroom16) _)
   clear hr16 hC16 hroom16 hi016 hsz16 hc16
   have KY16 := Aside0.mk hy16
   have KA16 := Aside0.mk hA16
   clear hy16 hA16
   replace q16 := eq_true q16
   go_wp2_with (first | ((with_reducible refine uB (f := 47) rfl ?_); refine uL (some 28) Tryd.func47 #[.slice A16 y272.length c16] ?_; (with_reducible refine (spec_FormatLog.calls k1 _ _ y272 t276 _ ?side1 ?side2 A13.out).mono ?_); (case side1 => repeat (first | exact (Kd.vT HR275.out HB.out) | (with_reducible refine Kd.C_alloc ?_ _) | (with_reducible refine Kd.C_drewN ?_ _) | (with_reducible refine Kd.C_drew ?_))); (case side2 => exact HC275.out); rintro e w17 ⟨rfl, hb⟩; refine ⟨_, rfl, ?_⟩; replace HO_3 := Kd.tR HO_3 hb; replace HB := uH HB hb; (try clear hb)) | ((with_reducible refine uB (f := 46) rfl ?_); refine uL (some 29) Tryd.func46 #[.string t276] ?_; (with_reducible refine (spec_Checksum.calls k1 t276 t277 _ A14.out).mono ?_); rintro e w' ⟨rfl, ⟨nd, rfl⟩⟩; refine ⟨_, rfl, ?_⟩) | ((with_reducible refine gate_builtin (b := .append) (xs := #[.tmp 32, .tmp 34]) rfl ?_); at_builtin; refine Kd.R_append (Kd.int .i64) (w0 := w) w.heap.size rfl (.tmp 32) (.tmp 34) 27 3 (.int .i64 0) 8 rfl Tryd.underlying27 info3 rfl (by decide) (by omega) u3 x3_1 (Int.tmod (wrap64 ((wrap64 (x4_1 * 31)) + t277)) 9973) [.int .i64 (Int.tmod (wrap64 ((wrap64 (x4_1 * 31)) + t277)) 9973)] (fun _ => True) (fun _ => False) rfl rfl ?aP (fun _ hk => hk.elim) ?aF ?aO ?aB ?aS ?aL ?_; (case aP => exact rfl); (case aB => exact cq36); (case aF => exact (fun _ _ => trivial)); (case aO => exact (uT HO_3.out)); (case aS => exact cq30); (case aL => have := LMc15.out; omega); intro v279 w18 ho hb hg hat; rw [← Ny278.out] at ho; have n0_ := Aside0.mk (hb); have n1_ := Aside0.mk (ho); clear HB; clear HO_3; have HB := n0_; have HO280 := n1_; clear n0_ n1_; clear ho hb hg hat))
   go_roundg k1
   case measure => have := HK1.out; omega
   case rel => exact ⟨(y278), (Int.tmod (wrap64 ((wrap64 (x4_1 * 31)) + t277)) 9973), (wrap64 (x5_1 + 1)), vD, vD, H', ⟨by have := HK1.out; omega⟩, ⟨by (with_reducible repeat (first | apply Kd.uK | apply Kd.uJ | apply Kd.uO)); exact HO280.out⟩, ⟨uW⟩⟩

end Go.Proofs.YtcikahnmiiichaaDoor.K
