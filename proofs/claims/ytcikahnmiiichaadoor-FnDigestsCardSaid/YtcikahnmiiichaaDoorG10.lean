/- Go functions as Lean functions, and the proof that the code comes to them: written by a program of this session out of the translation. -/
import Derived.Test.YtcikahnmiiichaaDoorG0
import Derived.Test.YtcikahnmiiichaaDoorG8
import Derived.Test.YtcikahnmiiichaaDoorG9
namespace Go.Proofs.YtcikahnmiiichaaDoor.G
open List renaming setIfInBounds_toArray → uY, set_cons_zero → uZ, set_cons_succ → vA
open Go.World renaming block_lt_of_cell? → vE
open Go.Proofs.YtcikahnmiiichaaDoor.Given
open Go.RowKit Go.Proofs.YtcikahnmiiichaaDoorW.PrintWords Go.Proofs.YtcikahnmiiichaaDoorW.PrintLast Go.Proofs.YtcikahnmiiichaaDoorW.PrintMore
attribute [local go_sem] max2_int min2_int max_two min_two max_three min_three max_four min_four   -- for this text's walks alone
set_option linter.unusedVariables false
set_option linter.unusedSimpArgs false

/-! ### spec_FormatLog: function 47 -/
def spec_FormatLog.l0 : Nat → List (S66) → ByteArray → Int → Option (ByteArray)
  | 0, _, _, _ => none
  | k + 1, x0, x3, x4 => if x4 < (x0.length : Int) then (if x4 > 0 then (if x3.size + 1 ≤ 9223372036854775807 then (if 0 ≤ x4 then ((spec_FormatInt.f k ((rd_T66 x0 x4).f0)).bind fun t390 => (if (x3 ++ (⟨#[59]⟩ : ByteArray)).size + t390.size ≤ 9223372036854775807 then (if ((x3 ++ (⟨#[59]⟩ : ByteArray)) ++ t390).size + 1 ≤ 9223372036854775807 then ((spec_FormatOp.f k ((rd_T66 x0 x4).f1.f0) ((rd_T66 x0 x4).f1.f1) ((rd_T66 x0 x4).f1.f2) ((rd_T66 x0 x4).f1.f3) ((rd_T66 x0 x4).f1.f4) ((rd_T66 x0 x4).f1.f5)).bind fun t392 => (if (((x3 ++ (⟨#[59]⟩ : ByteArray)) ++ t390) ++ (⟨#[58]⟩ : ByteArray)).size + t392.size ≤ 9223372036854775807 then (spec_FormatLog.l0 k x0 ((((x3 ++ (⟨#[59]⟩ : ByteArray)) ++ t390) ++ (⟨#[58]⟩ : ByteArray)) ++ t392) (wrap64 (x4 + 1))) else (none))) else (none)) else (none))) else (none)) else (none)) else (if 0 ≤ x4 then ((spec_FormatInt.f k ((rd_T66 x0 x4).f0)).bind fun t394 => (if x3.size + t394.size ≤ 9223372036854775807 then (if (x3 ++ t394).size + 1 ≤ 9223372036854775807 then ((spec_FormatOp.f k ((rd_T66 x0 x4).f1.f0) ((rd_T66 x0 x4).f1.f1) ((rd_T66 x0 x4).f1.f2) ((rd_T66 x0 x4).f1.f3) ((rd_T66 x0 x4).f1.f4) ((rd_T66 x0 x4).f1.f5)).bind fun t396 => (if ((x3 ++ t394) ++ (⟨#[58]⟩ : ByteArray)).size + t396.size ≤ 9223372036854775807 then (spec_FormatLog.l0 k x0 (((x3 ++ t394) ++ (⟨#[58]⟩ : ByteArray)) ++ t396) (wrap64 (x4 + 1))) else (none))) else (none)) else (none))) else (none))) else (some x3)
def spec_FormatLog.f (k : Nat) (l0 : List (S66)) : Option (ByteArray) := (spec_IsLog.f k l0).bind fun t388 => (if t388 = true then (if (l0.length : Int) = 0 then (some (⟨#[110, 111, 110, 101]⟩ : ByteArray)) else (spec_FormatLog.l0 k l0 (⟨#[]⟩ : ByteArray) 0)) else (some (⟨#[]⟩ : ByteArray)))
theorem spec_FormatLog.mono_l : ∀ k, (∀ y0 y1 y2, uF (spec_FormatLog.l0 k y0 y1 y2) (spec_FormatLog.l0 (k + 1) y0 y1 y2))
  | 0 => fun _ _ _ r h => by simp [spec_FormatLog.l0] at h
  | k + 1 => by
    have ih0 := spec_FormatLog.mono_l k
    intro y0 y1 y2
    unfold spec_FormatLog.l0
    repeat' first
    | (with_reducible exact ih0 _ _ _)
    | (with_reducible exact spec_FormatInt.mono _ _)
    | (with_reducible exact spec_FormatOp.mono _ _ _ _ _ _ _)
    | (with_reducible exact spec_IsLog.mono _ _)
    | (with_reducible exact uF.refl _)
    | (with_reducible exact uF.none _)
    | (with_reducible refine uF.ite ?_ ?_)
    | (with_reducible refine uF.bind ?_ (fun _ => ?_))
    | exact ih0 _ _ _
    | exact spec_FormatInt.mono _ _
    | exact spec_FormatOp.mono _ _ _ _ _ _ _
    | exact spec_IsLog.mono _ _
    | exact uF.none _
    | refine uF.ite ?_ ?_
    | refine uF.bind ?_ (fun _ => ?_)
theorem spec_FormatLog.mono : ∀ a0 k, uF (spec_FormatLog.f k a0) (spec_FormatLog.f (k + 1) a0) := by
  intro a0 k
  have ih0 := spec_FormatLog.mono_l k
  unfold spec_FormatLog.f
  repeat' first
      | (with_reducible exact ih0 _ _ _)
      | (with_reducible exact spec_FormatInt.mono _ _)
      | (with_reducible exact spec_FormatOp.mono _ _ _ _ _ _ _)
      | (with_reducible exact spec_IsLog.mono _ _)
      | (with_reducible exact uF.refl _)
      | (with_reducible exact uF.none _)
      | (with_reducible refine uF.ite ?_ ?_)
      | (with_reducible refine uF.bind ?_ (fun _ => ?_))
      | exact ih0 _ _ _
      | exact spec_FormatInt.mono _ _
      | exact spec_FormatOp.mono _ _ _ _ _ _ _
      | exact spec_IsLog.mono _ _
      | exact uF.none _
      | refine uF.ite ?_ ?_
      | refine uF.bind ?_ (fun _ => ?_)
def spec_FormatLog.T11 : Bool × List (List Nat × List Nat) := (true, [([], []), ([], []), ([], []), ([1, 2], [1, 2]), ([3], [3]), ([4], [4]), ([5], [5]), ([0, 6], [0, 6]), ([7], [7]), ([], []), ([], []), ([9, 10], [9, 10]), ([11], [11]), ([12], [12]), ([13, 6], [13]), ([8, 14], [8, 14]), ([15, 14, 0, 1, 2, 3, 4, 5, 6, 7, 8, 9, 10, 11, 12, 13, 14, 15], [0, 15])])
def spec_FormatLog.B11 : List Nat := [0, 0, 0, 6, 14, 30, 62, 127, 255, 0, 0, 1536, 3584, 7680, 15998, 32767, 65535]
theorem spec_FormatLog.tab11 : rtab .any (opsOf Tryd.f47 11) = spec_FormatLog.T11 := by kernel_rfl
theorem spec_FormatLog.bits11 : waitsOk spec_FormatLog.T11.2 spec_FormatLog.B11 = true := by kernel_rfl
set_option maxHeartbeats 8000000 in
set_option maxRecDepth 100000 in
theorem spec_FormatLog.calls (k : Nat) (A0 : Option Addr) (c0 : Nat) (l0 : List (S66)) (r : ByteArray) (w : World) (hr0 : Kd.C k66 w A0 l0.length l0) (hc0 : l0.length ≤ c0) (h : spec_FormatLog.f k l0 = some r) :
    Calls Tryd.prog 47 #[.slice A0 l0.length c0] w fun e w' => e = .returned (.string r) ∧ Below w.heap.size w w' := by
  have hu64 := Tryd.underlying64
  have HR0 := Aside0.mk hr0
  have HC0 := Aside0.mk hc0
  clear hr0 hc0
  have HB := Aside0.mk (Below.refl w.heap.size w)
  have H : ((spec_IsLog.f k l0).bind fun t388 => (if t388 = true then (if (l0.length : Int) = 0 then (some (⟨#[110, 111, 110, 101]⟩ : ByteArray)) else (spec_FormatLog.l0 k l0 (⟨#[]⟩ : ByteArray) 0)) else (some (⟨#[]⟩ : ByteArray)))) = some r := h
  clear h
  replace H := Option.bind_eq_some_iff.mp H
  obtain ⟨t388, A20, H⟩ := H
  try dsimp only at H
  have A2 := Aside0.mk A20
  clear A20
  by_cases c3 : t388 = true
  rotate_left
  · replace c3 := Bool.eq_false_iff.mpr c3
    subst c3
    try rw [if_neg (show ¬ (false = true) by decide)] at H
    obtain rfl := Option.some.inj H
    go_enter Tryd.func47, Tryd.ntmps47
    go_wp2_with (first | ((with_reducible refine uE (f := 15) rfl ?_); refine uL (some 6) Tryd.func15 #[.slice A0 l0.length c0] ?_; (with_reducible refine (spec_IsLog.calls k _ _ l0 false _ ?side1 ?side2 A2.out).mono ?_); (case side1 => exact q14); (case side2 => exact HC0.out); rintro e w28 ⟨rfl, hb⟩; refine ⟨_, rfl, ?_⟩; replace HB := uQ HB hb; (try clear hb); (try clear hb2); (try clear hk); (try clear hi)))
    go_ret
    exact ⟨q2, q0⟩
  subst c3
  try rw [if_pos rfl] at H
  go_enter Tryd.func47, Tryd.ntmps47
  go_wp2_with (first | ((with_reducible refine uE (f := 15) rfl ?_); refine uL (some 6) Tryd.func15 #[.slice A0 l0.length c0] ?_; (with_reducible refine (spec_IsLog.calls k _ _ l0 true _ ?side1 ?side2 A2.out).mono ?_); (case side1 => exact q14); (case side2 => exact HC0.out); rintro e w5 ⟨rfl, hb⟩; refine ⟨_, rfl, ?_⟩; replace HB := uQ HB hb; (try clear hb); (try clear hb2); (try clear hk); (try clear hi); refine ?roundEnd))
  case roundEnd =>
  by_cases c4 : (l0.length : Int) = 0
  · rw [if_pos c4] at H
    have c4b0 : ((l0.length : Int) == 0) = true := beq_iff_eq.mpr c4
    have c4b1 : ((l0.length : Int) != 0) = false := bne_eq_false_iff_eq.mpr c4
    clear c4
    obtain rfl := Option.some.inj H
    go_wp2
    go_ret
    exact ⟨q2, q0⟩
  rw [if_neg c4] at H
  have c4b0 : ((l0.length : Int) == 0) = false := beq_eq_false_iff_ne.mpr c4
  have c4b1 : ((l0.length : Int) != 0) = true := bne_iff_ne.mpr c4
  have c4b2 : ¬ (l0 = []) := fun h_ => c4 (by rw [h_]; rfl)
  have H' := Aside0.mk H
  clear H
  go_wp2
  go_loopg [3, 4] k (fun kq v3 v4 w' => ∃ (x3_1 : ByteArray) (x4_1 : Int), v3 = .string x3_1 ∧ v4 = .int .i64 x4_1 ∧ Aside0 (spec_FormatLog.l0 kq l0 x3_1 x4_1 = some r) ∧ Aside0 (kq ≤ k) ∧ Aside0 (Below w.heap.size w w'))
  case atStart => exact ⟨((⟨#[]⟩ : ByteArray)), (0), q10, q10, H', ⟨Nat.le_refl _⟩, ⟨q0⟩⟩
  case round =>
    clear H'
    try clear c1
    try clear p2
    try clear c3
    try clear c4
    try clear c4b0
    try clear c4b1
    try clear c4b2
    obtain ⟨x3_1, x4_1, rfl, rfl, HA, HK1, HB⟩ := hrel
    cases gk with
    | zero => exact absurd HA.out (by simp [spec_FormatLog.l0])
    | succ k1 =>
      have H := HA.out
      clear HA
      simp only [spec_FormatLog.l0] at H
      by_cases c7 : x4_1 < (l0.length : Int)
      rotate_left
      · rw [if_neg c7] at H
        have c7b0 : decide (x4_1 < (l0.length : Int)) = false := decide_eq_false c7
        clear c7
        obtain rfl := Option.some.inj H
        go_wp2
        go_ret
        exact ⟨q2, q0⟩
      rw [if_pos c7] at H
      have c7b0 : decide (x4_1 < (l0.length : Int)) = true := decide_eq_true c7
      clear c7
      by_cases c8 : x4_1 > 0
      rotate_left
      · rw [if_neg c8] at H
        have c8b0 : decide (0 < x4_1) = false := decide_eq_false c8
        clear c8
        by_cases c19 : 0 ≤ x4_1
        rotate_left
        · rw [if_neg c19] at H
          exact absurd H (by simp)
        rw [if_pos c19] at H
        have c19b0 : decide (0 ≤ x4_1) = true := decide_eq_true c19
        clear c19
        replace H := Option.bind_eq_some_iff.mp H
        obtain ⟨t394, A200, H⟩ := H
        try dsimp only at H
        have A20 := Aside0.mk A200
        clear A200
        by_cases c21 : x3_1.size + t394.size ≤ 9223372036854775807
        rotate_left
        · rw [if_neg c21] at H
          exact absurd H (by simp)
        rw [if_pos c21] at H
        have c21b0 := eq_true c21
        have c21b1 : decide (x3_1.size + t394.size ≤ 9223372036854775807) = true := decide_eq_true c21
        try have c21b2 : (9223372036854775807 < x3_1.size + t394.size) = False := eq_false (Nat.not_lt.2 c21)
        by_cases c22 : (x3_1 ++ t394).size + 1 ≤ 9223372036854775807
        rotate_left
        · rw [if_neg c22] at H
          exact absurd H (by simp)
        rw [if_pos c22] at H
        have c22b0 := eq_true c22
        have c22b1 : decide ((x3_1 ++ t394).size + 1 ≤ 9223372036854775807) = true := decide_eq_true c22
        try have c22b2 : (9223372036854775807 < (x3_1 ++ t394).size + 1) = False := eq_false (Nat.not_lt.2 c22)
        have c22b3 : (9223372036854775807 < x3_1.size + t394.size + 1) = False := eq_false (Nat.not_lt.2 (by have z_ := c22; (repeat rw [ByteArray.size_append] at z_); exact z_))
        replace H := Option.bind_eq_some_iff.mp H
        obtain ⟨t396, A230, H⟩ := H
        try dsimp only at H
        have A23 := Aside0.mk A230
        clear A230
        by_cases c24 : ((x3_1 ++ t394) ++ (⟨#[58]⟩ : ByteArray)).size + t396.size ≤ 9223372036854775807
        rotate_left
        · rw [if_neg c24] at H
          exact absurd H (by simp)
        rw [if_pos c24] at H
        have c24b0 := eq_true c24
        have c24b1 : decide (((x3_1 ++ t394) ++ (⟨#[58]⟩ : ByteArray)).size + t396.size ≤ 9223372036854775807) = true := decide_eq_true c24
        try have c24b2 : (9223372036854775807 < ((x3_1 ++ t394) ++ (⟨#[58]⟩ : ByteArray)).size + t396.size) = False := eq_false (Nat.not_lt.2 c24)
        have c24b3 : (9223372036854775807 < x3_1.size + t394.size + 1 + t396.size) = False := eq_false (Nat.not_lt.2 (by have z_ := c24; (repeat rw [ByteArray.size_append] at z_); exact z_))
        have H' := Aside0.mk H
        clear H
        try go_wp2
        replace HB := Aside0.mk (below_drew1 HB.out)
        have p393 : 0 ≤ (x4_1 : Int) := of_decide_eq_true q9
        have q393 : x4_1 < (l0.length : Int) := of_decide_eq_true q9
        obtain ⟨ad393, e393, hx393_0, hx393_1, hx393_2, hx393_3, hx393_4, hx393_5, hx393_6⟩ := at_T66 HR0.out x4_1 p393 q393
        have hw393_6 := hx393_6
        have hw393_5 := hx393_5
        have hw393_4 := hx393_4
        have hw393_3 := hx393_3
        have hw393_2 := hx393_2
        have hw393_1 := hx393_1
        have hw393_0 := hx393_0
        cases e393
        replace hx393_0 := (HB.out.cell (vE w _ hx393_0)).trans hx393_0
        replace hx393_1 := (HB.out.cell (vE w _ hx393_1)).trans hx393_1
        replace hx393_2 := (HB.out.cell (vE w _ hx393_2)).trans hx393_2
        replace hx393_3 := (HB.out.cell (vE w _ hx393_3)).trans hx393_3
        replace hx393_4 := (HB.out.cell (vE w _ hx393_4)).trans hx393_4
        replace hx393_5 := (HB.out.cell (vE w _ hx393_5)).trans hx393_5
        replace hx393_6 := (HB.out.cell (vE w _ hx393_6)).trans hx393_6
        replace p393 := eq_true p393
        replace q393 := eq_true q393
        have p395 : 0 ≤ (x4_1 : Int) := of_decide_eq_true q9
        have q395 : x4_1 < (l0.length : Int) := of_decide_eq_true q9
        obtain ⟨ad395, e395, hx395_0, hx395_1, hx395_2, hx395_3, hx395_4, hx395_5, hx395_6⟩ := at_T66 HR0.out x4_1 p395 q395
        have hw395_6 := hx395_6
        have hw395_5 := hx395_5
        have hw395_4 := hx395_4
        have hw395_3 := hx395_3
        have hw395_2 := hx395_2
        have hw395_1 := hx395_1
        have hw395_0 := hx395_0
        obtain rfl : ad393 = ad395 := (by injection e395)
        replace hx395_0 := (HB.out.cell (vE w _ hx395_0)).trans hx395_0
        replace hx395_1 := (HB.out.cell (vE w _ hx395_1)).trans hx395_1
        replace hx395_2 := (HB.out.cell (vE w _ hx395_2)).trans hx395_2
        replace hx395_3 := (HB.out.cell (vE w _ hx395_3)).trans hx395_3
        replace hx395_4 := (HB.out.cell (vE w _ hx395_4)).trans hx395_4
        replace hx395_5 := (HB.out.cell (vE w _ hx395_5)).trans hx395_5
        replace hx395_6 := (HB.out.cell (vE w _ hx395_6)).trans hx395_6
        replace p395 := eq_true p395
        replace q395 := eq_true q395
        refine start_ (n := 17) (S := fun w' => w'.cell? (ad393.add ((x4_1).toNat * 7)) = some (.int .i64 ((rd_T66 l0 x4_1).f0)) ∧ w'.cell? ⟨(ad393.add ((x4_1).toNat * 7)).block, (ad393.add ((x4_1).toNat * 7)).off + 1, none⟩ = some (.int .i64 ((rd_T66 l0 x4_1).f1.f0)) ∧ w'.cell? ⟨(ad393.add ((x4_1).toNat * 7)).block, (ad393.add ((x4_1).toNat * 7)).off + 2, none⟩ = some (.int .i64 ((rd_T66 l0 x4_1).f1.f1)) ∧ w'.cell? ⟨(ad393.add ((x4_1).toNat * 7)).block, (ad393.add ((x4_1).toNat * 7)).off + 3, none⟩ = some (.int .i64 ((rd_T66 l0 x4_1).f1.f2)) ∧ w'.cell? ⟨(ad393.add ((x4_1).toNat * 7)).block, (ad393.add ((x4_1).toNat * 7)).off + 4, none⟩ = some (.int .i64 ((rd_T66 l0 x4_1).f1.f3)) ∧ w'.cell? ⟨(ad393.add ((x4_1).toNat * 7)).block, (ad393.add ((x4_1).toNat * 7)).off + 5, none⟩ = some (.int .i64 ((rd_T66 l0 x4_1).f1.f4)) ∧ w'.cell? ⟨(ad393.add ((x4_1).toNat * 7)).block, (ad393.add ((x4_1).toNat * 7)).off + 6, none⟩ = some (.int .i64 ((rd_T66 l0 x4_1).f1.f5)) ∧ w'.cell? (ad393.add ((x4_1).toNat * 7)) = some (.int .i64 ((rd_T66 l0 x4_1).f0)) ∧ w'.cell? ⟨(ad393.add ((x4_1).toNat * 7)).block, (ad393.add ((x4_1).toNat * 7)).off + 1, none⟩ = some (.int .i64 ((rd_T66 l0 x4_1).f1.f0)) ∧ w'.cell? ⟨(ad393.add ((x4_1).toNat * 7)).block, (ad393.add ((x4_1).toNat * 7)).off + 2, none⟩ = some (.int .i64 ((rd_T66 l0 x4_1).f1.f1)) ∧ w'.cell? ⟨(ad393.add ((x4_1).toNat * 7)).block, (ad393.add ((x4_1).toNat * 7)).off + 3, none⟩ = some (.int .i64 ((rd_T66 l0 x4_1).f1.f2)) ∧ w'.cell? ⟨(ad393.add ((x4_1).toNat * 7)).block, (ad393.add ((x4_1).toNat * 7)).off + 4, none⟩ = some (.int .i64 ((rd_T66 l0 x4_1).f1.f3)) ∧ w'.cell? ⟨(ad393.add ((x4_1).toNat * 7)).block, (ad393.add ((x4_1).toNat * 7)).off + 5, none⟩ = some (.int .i64 ((rd_T66 l0 x4_1).f1.f4)) ∧ w'.cell? ⟨(ad393.add ((x4_1).toNat * 7)).block, (ad393.add ((x4_1).toNat * 7)).off + 6, none⟩ = some (.int .i64 ((rd_T66 l0 x4_1).f1.f5))) (ds := []) tb0 (by kernel_rfl) rfl rfl ⟨((HB.out.cell (vE w _ hw393_0)).trans hw393_0), ((HB.out.cell (vE w _ hw393_1)).trans hw393_1), ((HB.out.cell (vE w _ hw393_2)).trans hw393_2), ((HB.out.cell (vE w _ hw393_3)).trans hw393_3), ((HB.out.cell (vE w _ hw393_4)).trans hw393_4), ((HB.out.cell (vE w _ hw393_5)).trans hw393_5), ((HB.out.cell (vE w _ hw393_6)).trans hw393_6), ((HB.out.cell (vE w _ hw395_0)).trans hw395_0), ((HB.out.cell (vE w _ hw395_1)).trans hw395_1), ((HB.out.cell (vE w _ hw395_2)).trans hw395_2), ((HB.out.cell (vE w _ hw395_3)).trans hw395_3), ((HB.out.cell (vE w _ hw395_4)).trans hw395_4), ((HB.out.cell (vE w _ hw395_5)).trans hw395_5), ((HB.out.cell (vE w _ hw395_6)).trans hw395_6)⟩ (fun hHeld => ?_); refine with_tabW spec_FormatLog.tab11 spec_FormatLog.bits11 (fun HT_ HW_ => ?_)
        generalize wr.drew = w25 at HB hx393_0 hx393_1 hx393_2 hx393_3 hx393_4 hx393_5 hx393_6 hx395_0 hx395_1 hx395_2 hx395_3 hx395_4 hx395_5 hx395_6 hHeld ⊢
        refine uC (i := 0) (N := some 21) (v := ?_) (a' := ?_) tb1 rfl rfl (uK HT_.out (by kernel_rfl)) (fun _ _ _ h => h) (Or.inl ⟨by rfl, ?_⟩) ?_ ?_
        rotate_left
        · intro w'
          go_simp
          with_reducible rfl
        rotate_left
        · simp only [Act.put, uY, uZ, vA, uB, uD]
          rfl
        refine uC (i := 1) (N := some 22) (v := ?_) (a' := ?_) tb2 rfl rfl (uK HT_.out (by kernel_rfl)) (fun _ _ _ h => h) (Or.inl ⟨by rfl, ?_⟩) ?_ ?_
        rotate_left
        · intro w'
          go_simp
          with_reducible rfl
        rotate_left
        · simp only [Act.put, uY, uZ, vA, uB, uD]
          rfl
        refine uC (i := 2) (N := some 23) (v := ?_) (a' := ?_) tb3 rfl rfl (uK HT_.out (by kernel_rfl)) (fun _ _ _ h => h) (Or.inl ⟨by rfl, ?_⟩) ?_ ?_
        rotate_left
        · intro w'
          go_simp
          with_reducible rfl
        rotate_left
        · simp only [Act.put, uY, uZ, vA, uB, uD]
          rfl
        refine uC (i := 3) (N := some 24) (v := ?_) (a' := ?_) tb11 rfl rfl (uK HT_.out (by kernel_rfl)) (fun _ _ _ h => h) (Or.inl ⟨by rfl, ?_⟩) ?_ ?_
        rotate_left
        · intro w'
          go_simp
          with_reducible rfl
        rotate_left
        · simp only [Act.put, uY, uZ, vA, uB, uD]
          rfl
        refine uC (i := 4) (N := some 25) (v := ?_) (a' := ?_) tb13 rfl rfl (uK HT_.out (by kernel_rfl)) (fun _ _ _ h => h) (Or.inl ⟨by rfl, ?_⟩) ?_ ?_
        rotate_left
        · intro w'
          go_simp
          with_reducible rfl
        rotate_left
        · simp only [Act.put, uY, uZ, vA, uB, uD]
          rfl
        refine uC (i := 9) (N := some 30) (v := ?_) (a' := ?_) tb15 rfl rfl (uK HT_.out (by kernel_rfl)) (fun _ _ _ h => h) (Or.inl ⟨by rfl, ?_⟩) ?_ ?_
        rotate_left
        · intro w'
          go_simp
          with_reducible rfl
        rotate_left
        · simp only [Act.put, uY, uZ, vA, uB, uD]
          rfl
        refine uC (i := 10) (N := some 31) (v := ?_) (a' := ?_) tb18 rfl rfl (uK HT_.out (by kernel_rfl)) (fun _ _ _ h => h) (Or.inl ⟨by rfl, ?_⟩) ?_ ?_
        rotate_left
        · intro w'
          go_simp
          with_reducible rfl
        rotate_left
        · simp only [Act.put, uY, uZ, vA, uB, uD]
          rfl
        refine uC (i := 11) (N := some 32) (v := ?_) (a' := ?_) tb21 rfl rfl (uK HT_.out (by kernel_rfl)) (fun _ _ _ h => h) (Or.inl ⟨by rfl, ?_⟩) ?_ ?_
        rotate_left
        · intro w'
          go_simp
          with_reducible rfl
        rotate_left
        · simp only [Act.put, uY, uZ, vA, uB, uD]
          rfl
        refine uC (i := 12) (N := some 33) (v := ?_) (a' := ?_) tb23 rfl rfl (uK HT_.out (by kernel_rfl)) (fun _ _ _ h => h) (Or.inl ⟨by rfl, ?_⟩) ?_ ?_
        rotate_left
        · intro w'
          go_simp
          with_reducible rfl
        rotate_left
        · simp only [Act.put, uY, uZ, vA, uB, uD]
          rfl
        refine take_ (i := 5) (N := some 26) (v := ?_) (a' := ?_) tb26 rfl rfl (take_ofW HT_.out HW_.out (by kernel_rfl)) (fun _ _ _ h => h) (Or.inl ⟨by rfl, ?_⟩) hHeld ?_ ?_
        rotate_left
        · rintro w' ⟨s0, s1, s2, s3, s4, s5, s6, s7, s8, s9, s10, s11, s12, s13⟩
          go_simp
          with_reducible rfl
        rotate_left
        · simp only [Act.put, uY, uZ, vA, uB, uD]
          rfl
        refine take_ (i := 13) (N := some 34) (v := ?_) (a' := ?_) tb29 rfl rfl (take_ofW HT_.out HW_.out (by kernel_rfl)) (fun _ _ _ h => h) (Or.inl ⟨by rfl, ?_⟩) hHeld ?_ ?_
        rotate_left
        · rintro w' ⟨s0, s1, s2, s3, s4, s5, s6, s7, s8, s9, s10, s11, s12, s13⟩
          go_simp
          with_reducible rfl
        rotate_left
        · simp only [Act.put, uY, uZ, vA, uB, uD]
          rfl
        refine one_ (i := 6) (N := some 27) tb31 rfl rfl (one_of HT_.out (by kernel_rfl)) (by decide) (fun K hK => ?_)
        refine goes_ Tryd.func90 (by kernel_rfl) rfl #[.int .i64 ((rd_T66 l0 x4_1).f0)] (by rfl) rfl rfl q8 ?_
        with_reducible refine (spec_FormatInt.calls k1 ((rd_T66 l0 x4_1).f0) t394 _ A20.out).mono ?_
        rintro e w26 ⟨rfl, hb⟩
        refine ⟨_, rfl, ?_⟩
        replace HB := uQ HB hb
        (try clear hb)
        (try clear hb2)
        (try clear hk)
        (try clear hi)
        refine hK.out _ _ ⟨((HB.out.cell (vE w _ hw393_0)).trans hw393_0), ((HB.out.cell (vE w _ hw393_1)).trans hw393_1), ((HB.out.cell (vE w _ hw393_2)).trans hw393_2), ((HB.out.cell (vE w _ hw393_3)).trans hw393_3), ((HB.out.cell (vE w _ hw393_4)).trans hw393_4), ((HB.out.cell (vE w _ hw393_5)).trans hw393_5), ((HB.out.cell (vE w _ hw393_6)).trans hw393_6), ((HB.out.cell (vE w _ hw395_0)).trans hw395_0), ((HB.out.cell (vE w _ hw395_1)).trans hw395_1), ((HB.out.cell (vE w _ hw395_2)).trans hw395_2), ((HB.out.cell (vE w _ hw395_3)).trans hw395_3), ((HB.out.cell (vE w _ hw395_4)).trans hw395_4), ((HB.out.cell (vE w _ hw395_5)).trans hw395_5), ((HB.out.cell (vE w _ hw395_6)).trans hw395_6)⟩ (fun hHeld => ?_)
        clear hK K
        refine norm_ (a' := ?_) ?_ ?_
        rotate_left
        · show Act.put _ (some 27) _ = _
          simp only [Act.put, uY, uZ, vA, uB, uD]
          rfl
        refine uC (i := 7) (N := some 28) (v := ?_) (a' := ?_) tb33 rfl rfl (uK HT_.out (by kernel_rfl)) (fun _ _ _ h => h) (Or.inl ⟨by rfl, ?_⟩) ?_ ?_
        rotate_left
        · intro w'
          go_simp
          with_reducible rfl
        rotate_left
        · simp only [Act.put, uY, uZ, vA, uB, uD]
          rfl
        refine uC (i := 8) (N := some 29) (v := ?_) (a' := ?_) tb4 rfl rfl (uK HT_.out (by kernel_rfl)) (fun _ _ _ h => h) (Or.inl ⟨by rfl, ?_⟩) ?_ ?_
        rotate_left
        · intro w'
          go_simp
          with_reducible rfl
        rotate_left
        · simp only [Act.put, uY, uZ, vA, uB, uD]
          rfl
        refine one_ (i := 14) (N := some 35) tb5 rfl rfl (one_of HT_.out (by kernel_rfl)) (by decide) (fun K hK => ?_)
        refine goes_ Tryd.func91 (by kernel_rfl) rfl #[.agg #[.int .i64 ((rd_T66 l0 x4_1).f1.f0), .int .i64 ((rd_T66 l0 x4_1).f1.f1), .int .i64 ((rd_T66 l0 x4_1).f1.f2), .int .i64 ((rd_T66 l0 x4_1).f1.f3), .int .i64 ((rd_T66 l0 x4_1).f1.f4), .int .i64 ((rd_T66 l0 x4_1).f1.f5)]] (by rfl) rfl rfl q8 ?_
        with_reducible refine (spec_FormatOp.calls k1 ((rd_T66 l0 x4_1).f1.f0) ((rd_T66 l0 x4_1).f1.f1) ((rd_T66 l0 x4_1).f1.f2) ((rd_T66 l0 x4_1).f1.f3) ((rd_T66 l0 x4_1).f1.f4) ((rd_T66 l0 x4_1).f1.f5) t396 _ A23.out).mono ?_
        rintro e w27 ⟨rfl, hb⟩
        refine ⟨_, rfl, ?_⟩
        replace HB := uQ HB hb
        (try clear hb)
        (try clear hb2)
        (try clear hk)
        (try clear hi)
        refine hK.out _ _ ⟨((HB.out.cell (vE w _ hw393_0)).trans hw393_0), ((HB.out.cell (vE w _ hw393_1)).trans hw393_1), ((HB.out.cell (vE w _ hw393_2)).trans hw393_2), ((HB.out.cell (vE w _ hw393_3)).trans hw393_3), ((HB.out.cell (vE w _ hw393_4)).trans hw393_4), ((HB.out.cell (vE w _ hw393_5)).trans hw393_5), ((HB.out.cell (vE w _ hw393_6)).trans hw393_6), ((HB.out.cell (vE w _ hw395_0)).trans hw395_0), ((HB.out.cell (vE w _ hw395_1)).trans hw395_1), ((HB.out.cell (vE w _ hw395_2)).trans hw395_2), ((HB.out.cell (vE w _ hw395_3)).trans hw395_3), ((HB.out.cell (vE w _ hw395_4)).trans hw395_4), ((HB.out.cell (vE w _ hw395_5)).trans hw395_5), ((HB.out.cell (vE w _ hw395_6)).trans hw395_6)⟩ (fun hHeld => ?_)
        clear hK K
        refine norm_ (a' := ?_) ?_ ?_
        rotate_left
        · show Act.put _ (some 35) _ = _
          simp only [Act.put, uY, uZ, vA, uB, uD]
          rfl
        refine uC (i := 15) (N := some 36) (v := ?_) (a' := ?_) tb6 rfl rfl (uK HT_.out (by kernel_rfl)) (fun _ _ _ h => h) (Or.inl ⟨by rfl, ?_⟩) ?_ ?_
        rotate_left
        · intro w'
          go_simp
          with_reducible rfl
        rotate_left
        · simp only [Act.put, uY, uZ, vA, uB, uD]
          rfl
        refine uC (i := 16) (N := some 3) (v := ?_) (a' := ?_) tb7 rfl rfl (uK HT_.out (by kernel_rfl)) (fun _ _ _ h => h) (Or.inl ⟨by rfl, ?_⟩) ?_ ?_
        rotate_left
        · intro w'
          go_simp
          with_reducible rfl
        rotate_left
        · simp only [Act.put, uY, uZ, vA, uB, uD]
          rfl
        refine done_ (done_of HT_.out (by kernel_rfl)) ?_
        try go_wp2
        go_roundg k1
        case measure => have := HK1.out; omega
        case rel => exact ⟨(((x3_1 ++ t394) ++ (⟨#[58]⟩ : ByteArray)) ++ t396), (wrap64 (x4_1 + 1)), q10, q10, H', ⟨by have := HK1.out; omega⟩, ⟨q0⟩⟩
      rw [if_pos c8] at H
      have c8b0 : decide (0 < x4_1) = true := decide_eq_true c8
      clear c8
      by_cases c9 : x3_1.size + 1 ≤ 9223372036854775807
      rotate_left
      · rw [if_neg c9] at H
        exact absurd H (by simp)
      rw [if_pos c9] at H
      have c9b0 := eq_true c9
      have c9b1 : decide (x3_1.size + 1 ≤ 9223372036854775807) = true := decide_eq_true c9
      try have c9b2 : (9223372036854775807 < x3_1.size + 1) = False := eq_false (Nat.not_lt.2 c9)
      by_cases c10 : 0 ≤ x4_1
      rotate_left
      · rw [if_neg c10] at H
        exact absurd H (by simp)
      rw [if_pos c10] at H
      have c10b0 : decide (0 ≤ x4_1) = true := decide_eq_true c10
      clear c10
      replace H := Option.bind_eq_some_iff.mp H
      obtain ⟨t390, A110, H⟩ := H
      try dsimp only at H
      have A11 := Aside0.mk A110
      clear A110
      by_cases c12 : (x3_1 ++ (⟨#[59]⟩ : ByteArray)).size + t390.size ≤ 9223372036854775807
      rotate_left
      · rw [if_neg c12] at H
        exact absurd H (by simp)
      rw [if_pos c12] at H
      have c12b0 := eq_true c12
      have c12b1 : decide ((x3_1 ++ (⟨#[59]⟩ : ByteArray)).size + t390.size ≤ 9223372036854775807) = true := decide_eq_true c12
      try have c12b2 : (9223372036854775807 < (x3_1 ++ (⟨#[59]⟩ : ByteArray)).size + t390.size) = False := eq_false (Nat.not_lt.2 c12)
      have c12b3 : (9223372036854775807 < x3_1.size + 1 + t390.size) = False := eq_false (Nat.not_lt.2 (by have z_ := c12; (repeat rw [ByteArray.size_append] at z_); exact z_))
      by_cases c13 : ((x3_1 ++ (⟨#[59]⟩ : ByteArray)) ++ t390).size + 1 ≤ 9223372036854775807
      rotate_left
      · rw [if_neg c13] at H
        exact absurd H (by simp)
      rw [if_pos c13] at H
      have c13b0 := eq_true c13
      have c13b1 : decide (((x3_1 ++ (⟨#[59]⟩ : ByteArray)) ++ t390).size + 1 ≤ 9223372036854775807) = true := decide_eq_true c13
      try have c13b2 : (9223372036854775807 < ((x3_1 ++ (⟨#[59]⟩ : ByteArray)) ++ t390).size + 1) = False := eq_false (Nat.not_lt.2 c13)
      have c13b3 : (9223372036854775807 < x3_1.size + 1 + t390.size + 1) = False := eq_false (Nat.not_lt.2 (by have z_ := c13; (repeat rw [ByteArray.size_append] at z_); exact z_))
      replace H := Option.bind_eq_some_iff.mp H
      obtain ⟨t392, A140, H⟩ := H
      try dsimp only at H
      have A14 := Aside0.mk A140
      clear A140
      by_cases c15 : (((x3_1 ++ (⟨#[59]⟩ : ByteArray)) ++ t390) ++ (⟨#[58]⟩ : ByteArray)).size + t392.size ≤ 9223372036854775807
      rotate_left
      · rw [if_neg c15] at H
        exact absurd H (by simp)
      rw [if_pos c15] at H
      have c15b0 := eq_true c15
      have c15b1 : decide ((((x3_1 ++ (⟨#[59]⟩ : ByteArray)) ++ t390) ++ (⟨#[58]⟩ : ByteArray)).size + t392.size ≤ 9223372036854775807) = true := decide_eq_true c15
      try have c15b2 : (9223372036854775807 < (((x3_1 ++ (⟨#[59]⟩ : ByteArray)) ++ t390) ++ (⟨#[58]⟩ : ByteArray)).size + t392.size) = False := eq_false (Nat.not_lt.2 c15)
      have c15b3 : (9223372036854775807 < x3_1.size + 1 + t390.size + 1 + t392.size) = False := eq_false (Nat.not_lt.2 (by have z_ := c15; (repeat rw [ByteArray.size_append] at z_); exact z_))
      have H' := Aside0.mk H
      clear H
      try go_wp2
      replace HB := Aside0.mk (below_drew1 HB.out)
      have p389 : 0 ≤ (x4_1 : Int) := of_decide_eq_true q9
      have q389 : x4_1 < (l0.length : Int) := of_decide_eq_true q9
      obtain ⟨ad389, e389, hx389_0, hx389_1, hx389_2, hx389_3, hx389_4, hx389_5, hx389_6⟩ := at_T66 HR0.out x4_1 p389 q389
      have hw389_6 := hx389_6
      have hw389_5 := hx389_5
      have hw389_4 := hx389_4
      have hw389_3 := hx389_3
      have hw389_2 := hx389_2
      have hw389_1 := hx389_1
      have hw389_0 := hx389_0
      cases e389
      replace hx389_0 := (HB.out.cell (vE w _ hx389_0)).trans hx389_0
      replace hx389_1 := (HB.out.cell (vE w _ hx389_1)).trans hx389_1
      replace hx389_2 := (HB.out.cell (vE w _ hx389_2)).trans hx389_2
      replace hx389_3 := (HB.out.cell (vE w _ hx389_3)).trans hx389_3
      replace hx389_4 := (HB.out.cell (vE w _ hx389_4)).trans hx389_4
      replace hx389_5 := (HB.out.cell (vE w _ hx389_5)).trans hx389_5
      replace hx389_6 := (HB.out.cell (vE w _ hx389_6)).trans hx389_6
      replace p389 := eq_true p389
      replace q389 := eq_true q389
      have p391 : 0 ≤ (x4_1 : Int) := of_decide_eq_true q9
      have q391 : x4_1 < (l0.length : Int) := of_decide_eq_true q9
      obtain ⟨ad391, e391, hx391_0, hx391_1, hx391_2, hx391_3, hx391_4, hx391_5, hx391_6⟩ := at_T66 HR0.out x4_1 p391 q391
      have hw391_6 := hx391_6
      have hw391_5 := hx391_5
      have hw391_4 := hx391_4
      have hw391_3 := hx391_3
      have hw391_2 := hx391_2
      have hw391_1 := hx391_1
      have hw391_0 := hx391_0
      obtain rfl : ad389 = ad391 := (by injection e391)
      replace hx391_0 := (HB.out.cell (vE w _ hx391_0)).trans hx391_0
      replace hx391_1 := (HB.out.cell (vE w _ hx391_1)).trans hx391_1
      replace hx391_2 := (HB.out.cell (vE w _ hx391_2)).trans hx391_2
      replace hx391_3 := (HB.out.cell (vE w _ hx391_3)).trans hx391_3
      replace hx391_4 := (HB.out.cell (vE w _ hx391_4)).trans hx391_4
      replace hx391_5 := (HB.out.cell (vE w _ hx391_5)).trans hx391_5
      replace hx391_6 := (HB.out.cell (vE w _ hx391_6)).trans hx391_6
      replace p391 := eq_true p391
      replace q391 := eq_true q391
      refine start_ (n := 17) (S := fun w' => w'.cell? (ad389.add ((x4_1).toNat * 7)) = some (.int .i64 ((rd_T66 l0 x4_1).f0)) ∧ w'.cell? ⟨(ad389.add ((x4_1).toNat * 7)).block, (ad389.add ((x4_1).toNat * 7)).off + 1, none⟩ = some (.int .i64 ((rd_T66 l0 x4_1).f1.f0)) ∧ w'.cell? ⟨(ad389.add ((x4_1).toNat * 7)).block, (ad389.add ((x4_1).toNat * 7)).off + 2, none⟩ = some (.int .i64 ((rd_T66 l0 x4_1).f1.f1)) ∧ w'.cell? ⟨(ad389.add ((x4_1).toNat * 7)).block, (ad389.add ((x4_1).toNat * 7)).off + 3, none⟩ = some (.int .i64 ((rd_T66 l0 x4_1).f1.f2)) ∧ w'.cell? ⟨(ad389.add ((x4_1).toNat * 7)).block, (ad389.add ((x4_1).toNat * 7)).off + 4, none⟩ = some (.int .i64 ((rd_T66 l0 x4_1).f1.f3)) ∧ w'.cell? ⟨(ad389.add ((x4_1).toNat * 7)).block, (ad389.add ((x4_1).toNat * 7)).off + 5, none⟩ = some (.int .i64 ((rd_T66 l0 x4_1).f1.f4)) ∧ w'.cell? ⟨(ad389.add ((x4_1).toNat * 7)).block, (ad389.add ((x4_1).toNat * 7)).off + 6, none⟩ = some (.int .i64 ((rd_T66 l0 x4_1).f1.f5)) ∧ w'.cell? (ad389.add ((x4_1).toNat * 7)) = some (.int .i64 ((rd_T66 l0 x4_1).f0)) ∧ w'.cell? ⟨(ad389.add ((x4_1).toNat * 7)).block, (ad389.add ((x4_1).toNat * 7)).off + 1, none⟩ = some (.int .i64 ((rd_T66 l0 x4_1).f1.f0)) ∧ w'.cell? ⟨(ad389.add ((x4_1).toNat * 7)).block, (ad389.add ((x4_1).toNat * 7)).off + 2, none⟩ = some (.int .i64 ((rd_T66 l0 x4_1).f1.f1)) ∧ w'.cell? ⟨(ad389.add ((x4_1).toNat * 7)).block, (ad389.add ((x4_1).toNat * 7)).off + 3, none⟩ = some (.int .i64 ((rd_T66 l0 x4_1).f1.f2)) ∧ w'.cell? ⟨(ad389.add ((x4_1).toNat * 7)).block, (ad389.add ((x4_1).toNat * 7)).off + 4, none⟩ = some (.int .i64 ((rd_T66 l0 x4_1).f1.f3)) ∧ w'.cell? ⟨(ad389.add ((x4_1).toNat * 7)).block, (ad389.add ((x4_1).toNat * 7)).off + 5, none⟩ = some (.int .i64 ((rd_T66 l0 x4_1).f1.f4)) ∧ w'.cell? ⟨(ad389.add ((x4_1).toNat * 7)).block, (ad389.add ((x4_1).toNat * 7)).off + 6, none⟩ = some (.int .i64 ((rd_T66 l0 x4_1).f1.f5))) (ds := []) tb0 (by kernel_rfl) rfl rfl ⟨((HB.out.cell (vE w _ hw389_0)).trans hw389_0), ((HB.out.cell (vE w _ hw389_1)).trans hw389_1), ((HB.out.cell (vE w _ hw389_2)).trans hw389_2), ((HB.out.cell (vE w _ hw389_3)).trans hw389_3), ((HB.out.cell (vE w _ hw389_4)).trans hw389_4), ((HB.out.cell (vE w _ hw389_5)).trans hw389_5), ((HB.out.cell (vE w _ hw389_6)).trans hw389_6), ((HB.out.cell (vE w _ hw391_0)).trans hw391_0), ((HB.out.cell (vE w _ hw391_1)).trans hw391_1), ((HB.out.cell (vE w _ hw391_2)).trans hw391_2), ((HB.out.cell (vE w _ hw391_3)).trans hw391_3), ((HB.out.cell (vE w _ hw391_4)).trans hw391_4), ((HB.out.cell (vE w _ hw391_5)).trans hw391_5), ((HB.out.cell (vE w _ hw391_6)).trans hw391_6)⟩ (fun hHeld => ?_); refine with_tabW spec_FormatLog.tab11 spec_FormatLog.bits11 (fun HT_ HW_ => ?_)
      generalize wr.drew = w16 at HB hx389_0 hx389_1 hx389_2 hx389_3 hx389_4 hx389_5 hx389_6 hx391_0 hx391_1 hx391_2 hx391_3 hx391_4 hx391_5 hx391_6 hHeld ⊢
      refine uC (i := 0) (N := some 21) (v := ?_) (a' := ?_) tb1 rfl rfl (uK HT_.out (by kernel_rfl)) (fun _ _ _ h => h) (Or.inl ⟨by rfl, ?_⟩) ?_ ?_
      rotate_left
      · intro w'
        go_simp
        with_reducible rfl
      rotate_left
      · simp only [Act.put, uY, uZ, vA, uB, uD]
        rfl
      refine uC (i := 1) (N := some 22) (v := ?_) (a' := ?_) tb2 rfl rfl (uK HT_.out (by kernel_rfl)) (fun _ _ _ h => h) (Or.inl ⟨by rfl, ?_⟩) ?_ ?_
      rotate_left
      · intro w'
        go_simp
        with_reducible rfl
      rotate_left
      · simp only [Act.put, uY, uZ, vA, uB, uD]
        rfl
      refine uC (i := 2) (N := some 23) (v := ?_) (a' := ?_) tb3 rfl rfl (uK HT_.out (by kernel_rfl)) (fun _ _ _ h => h) (Or.inl ⟨by rfl, ?_⟩) ?_ ?_
      rotate_left
      · intro w'
        go_simp
        with_reducible rfl
      rotate_left
      · simp only [Act.put, uY, uZ, vA, uB, uD]
        rfl
      refine uC (i := 3) (N := some 24) (v := ?_) (a' := ?_) tb11 rfl rfl (uK HT_.out (by kernel_rfl)) (fun _ _ _ h => h) (Or.inl ⟨by rfl, ?_⟩) ?_ ?_
      rotate_left
      · intro w'
        go_simp
        with_reducible rfl
      rotate_left
      · simp only [Act.put, uY, uZ, vA, uB, uD]
        rfl
      refine uC (i := 4) (N := some 25) (v := ?_) (a' := ?_) tb13 rfl rfl (uK HT_.out (by kernel_rfl)) (fun _ _ _ h => h) (Or.inl ⟨by rfl, ?_⟩) ?_ ?_
      rotate_left
      · intro w'
        go_simp
        with_reducible rfl
      rotate_left
      · simp only [Act.put, uY, uZ, vA, uB, uD]
        rfl
      refine uC (i := 9) (N := some 30) (v := ?_) (a' := ?_) tb15 rfl rfl (uK HT_.out (by kernel_rfl)) (fun _ _ _ h => h) (Or.inl ⟨by rfl, ?_⟩) ?_ ?_
      rotate_left
      · intro w'
        go_simp
        with_reducible rfl
      rotate_left
      · simp only [Act.put, uY, uZ, vA, uB, uD]
        rfl
      refine uC (i := 10) (N := some 31) (v := ?_) (a' := ?_) tb18 rfl rfl (uK HT_.out (by kernel_rfl)) (fun _ _ _ h => h) (Or.inl ⟨by rfl, ?_⟩) ?_ ?_
      rotate_left
      · intro w'
        go_simp
        with_reducible rfl
      rotate_left
      · simp only [Act.put, uY, uZ, vA, uB, uD]
        rfl
      refine uC (i := 11) (N := some 32) (v := ?_) (a' := ?_) tb21 rfl rfl (uK HT_.out (by kernel_rfl)) (fun _ _ _ h => h) (Or.inl ⟨by rfl, ?_⟩) ?_ ?_
      rotate_left
      · intro w'
        go_simp
        with_reducible rfl
      rotate_left
      · simp only [Act.put, uY, uZ, vA, uB, uD]
        rfl
      refine uC (i := 12) (N := some 33) (v := ?_) (a' := ?_) tb23 rfl rfl (uK HT_.out (by kernel_rfl)) (fun _ _ _ h => h) (Or.inl ⟨by rfl, ?_⟩) ?_ ?_
      rotate_left
      · intro w'
        go_simp
        with_reducible rfl
      rotate_left
      · simp only [Act.put, uY, uZ, vA, uB, uD]
        rfl
      refine take_ (i := 5) (N := some 26) (v := ?_) (a' := ?_) tb26 rfl rfl (take_ofW HT_.out HW_.out (by kernel_rfl)) (fun _ _ _ h => h) (Or.inl ⟨by rfl, ?_⟩) hHeld ?_ ?_
      rotate_left
      · rintro w' ⟨s0, s1, s2, s3, s4, s5, s6, s7, s8, s9, s10, s11, s12, s13⟩
        go_simp
        with_reducible rfl
      rotate_left
      · simp only [Act.put, uY, uZ, vA, uB, uD]
        rfl
      refine take_ (i := 13) (N := some 34) (v := ?_) (a' := ?_) tb29 rfl rfl (take_ofW HT_.out HW_.out (by kernel_rfl)) (fun _ _ _ h => h) (Or.inl ⟨by rfl, ?_⟩) hHeld ?_ ?_
      rotate_left
      · rintro w' ⟨s0, s1, s2, s3, s4, s5, s6, s7, s8, s9, s10, s11, s12, s13⟩
        go_simp
        with_reducible rfl
      rotate_left
      · simp only [Act.put, uY, uZ, vA, uB, uD]
        rfl
      refine one_ (i := 6) (N := some 27) tb31 rfl rfl (one_of HT_.out (by kernel_rfl)) (by decide) (fun K hK => ?_)
      refine goes_ Tryd.func90 (by kernel_rfl) rfl #[.int .i64 ((rd_T66 l0 x4_1).f0)] (by rfl) rfl rfl q8 ?_
      with_reducible refine (spec_FormatInt.calls k1 ((rd_T66 l0 x4_1).f0) t390 _ A11.out).mono ?_
      rintro e w17 ⟨rfl, hb⟩
      refine ⟨_, rfl, ?_⟩
      replace HB := uQ HB hb
      (try clear hb)
      (try clear hb2)
      (try clear hk)
      (try clear hi)
      refine hK.out _ _ ⟨((HB.out.cell (vE w _ hw389_0)).trans hw389_0), ((HB.out.cell (vE w _ hw389_1)).trans hw389_1), ((HB.out.cell (vE w _ hw389_2)).trans hw389_2), ((HB.out.cell (vE w _ hw389_3)).trans hw389_3), ((HB.out.cell (vE w _ hw389_4)).trans hw389_4), ((HB.out.cell (vE w _ hw389_5)).trans hw389_5), ((HB.out.cell (vE w _ hw389_6)).trans hw389_6), ((HB.out.cell (vE w _ hw391_0)).trans hw391_0), ((HB.out.cell (vE w _ hw391_1)).trans hw391_1), ((HB.out.cell (vE w _ hw391_2)).trans hw391_2), ((HB.out.cell (vE w _ hw391_3)).trans hw391_3), ((HB.out.cell (vE w _ hw391_4)).trans hw391_4), ((HB.out.cell (vE w _ hw391_5)).trans hw391_5), ((HB.out.cell (vE w _ hw391_6)).trans hw391_6)⟩ (fun hHeld => ?_)
      clear hK K
      refine norm_ (a' := ?_) ?_ ?_
      rotate_left
      · show Act.put _ (some 27) _ = _
        simp only [Act.put, uY, uZ, vA, uB, uD]
        rfl
      refine uC (i := 7) (N := some 28) (v := ?_) (a' := ?_) tb33 rfl rfl (uK HT_.out (by kernel_rfl)) (fun _ _ _ h => h) (Or.inl ⟨by rfl, ?_⟩) ?_ ?_
      rotate_left
      · intro w'
        go_simp
        with_reducible rfl
      rotate_left
      · simp only [Act.put, uY, uZ, vA, uB, uD]
        rfl
      refine uC (i := 8) (N := some 29) (v := ?_) (a' := ?_) tb4 rfl rfl (uK HT_.out (by kernel_rfl)) (fun _ _ _ h => h) (Or.inl ⟨by rfl, ?_⟩) ?_ ?_
      rotate_left
      · intro w'
        go_simp
        with_reducible rfl
      rotate_left
      · simp only [Act.put, uY, uZ, vA, uB, uD]
        rfl
      refine one_ (i := 14) (N := some 35) tb5 rfl rfl (one_of HT_.out (by kernel_rfl)) (by decide) (fun K hK => ?_)
      refine goes_ Tryd.func91 (by kernel_rfl) rfl #[.agg #[.int .i64 ((rd_T66 l0 x4_1).f1.f0), .int .i64 ((rd_T66 l0 x4_1).f1.f1), .int .i64 ((rd_T66 l0 x4_1).f1.f2), .int .i64 ((rd_T66 l0 x4_1).f1.f3), .int .i64 ((rd_T66 l0 x4_1).f1.f4), .int .i64 ((rd_T66 l0 x4_1).f1.f5)]] (by rfl) rfl rfl q8 ?_
      with_reducible refine (spec_FormatOp.calls k1 ((rd_T66 l0 x4_1).f1.f0) ((rd_T66 l0 x4_1).f1.f1) ((rd_T66 l0 x4_1).f1.f2) ((rd_T66 l0 x4_1).f1.f3) ((rd_T66 l0 x4_1).f1.f4) ((rd_T66 l0 x4_1).f1.f5) t392 _ A14.out).mono ?_
      rintro e w18 ⟨rfl, hb⟩
      refine ⟨_, rfl, ?_⟩
      replace HB := uQ HB hb
      (try clear hb)
      (try clear hb2)
      (try clear hk)
      (try clear hi)
      refine hK.out _ _ ⟨((HB.out.cell (vE w _ hw389_0)).trans hw389_0), ((HB.out.cell (vE w _ hw389_1)).trans hw389_1), ((HB.out.cell (vE w _ hw389_2)).trans hw389_2), ((HB.out.cell (vE w _ hw389_3)).trans hw389_3), ((HB.out.cell (vE w _ hw389_4)).trans hw389_4), ((HB.out.cell (vE w _ hw389_5)).trans hw389_5), ((HB.out.cell (vE w _ hw389_6)).trans hw389_6), ((HB.out.cell (vE w _ hw391_0)).trans hw391_0), ((HB.out.cell (vE w _ hw391_1)).trans hw391_1), ((HB.out.cell (vE w _ hw391_2)).trans hw391_2), ((HB.out.cell (vE w _ hw391_3)).trans hw391_3), ((HB.out.cell (vE w _ hw391_4)).trans hw391_4), ((HB.out.cell (vE w _ hw391_5)).trans hw391_5), ((HB.out.cell (vE w _ hw391_6)).trans hw391_6)⟩ (fun hHeld => ?_)
      clear hK K
      refine norm_ (a' := ?_) ?_ ?_
      rotate_left
      · show Act.put _ (some 35) _ = _
        simp only [Act.put, uY, uZ, vA, uB, uD]
        rfl
      refine uC (i := 15) (N := some 36) (v := ?_) (a' := ?_) tb6 rfl rfl (uK HT_.out (by kernel_rfl)) (fun _ _ _ h => h) (Or.inl ⟨by rfl, ?_⟩) ?_ ?_
      rotate_left
      · intro w'
        go_simp
        with_reducible rfl
      rotate_left
      · simp only [Act.put, uY, uZ, vA, uB, uD]
        rfl
      refine uC (i := 16) (N := some 3) (v := ?_) (a' := ?_) tb7 rfl rfl (uK HT_.out (by kernel_rfl)) (fun _ _ _ h => h) (Or.inl ⟨by rfl, ?_⟩) ?_ ?_
      rotate_left
      · intro w'
        go_simp
        with_reducible rfl
      rotate_left
      · simp only [Act.put, uY, uZ, vA, uB, uD]
        rfl
      refine done_ (done_of HT_.out (by kernel_rfl)) ?_
      try go_wp2
      go_roundg k1
      case measure => have := HK1.out; omega
      case rel => exact ⟨((((x3_1 ++ (⟨#[59]⟩ : ByteArray)) ++ t390) ++ (⟨#[58]⟩ : ByteArray)) ++ t392), (wrap64 (x4_1 + 1)), q10, q10, H', ⟨by have := HK1.out; omega⟩, ⟨q0⟩⟩

/-! ### spec_DigestList: function 11 -/
def spec_DigestList.l0 : Nat → List (S66) → List Int → Int → Int → Option (List Int)
  | 0, _, _, _, _ => none
  | k + 1, x0, x3, x4, x5 => if x5 < (x0.length : Int) then (if 0 ≤ x5 then (if x5 ≤ (wrap64 (x5 + 1)) then (if (wrap64 (x5 + 1)) ≤ (x0.length : Int) then ((spec_FormatLog.f k ((x0.take ((wrap64 (x5 + 1)) : Int).toNat).drop (x5 : Int).toNat)).bind fun t408 => ((spec_Checksum.f k t408).bind fun t409 => (if x3.length < 17592186044416 then (spec_DigestList.l0 k x0 (x3 ++ [Int.tmod (wrap64 ((wrap64 (x4 * 31)) + t409)) 9973]) (Int.tmod (wrap64 ((wrap64 (x4 * 31)) + t409)) 9973) (wrap64 (x5 + 1))) else (none)))) else (none)) else (none)) else (none)) else (some x3)
def spec_DigestList.f (k : Nat) (l0 : List (S66)) : Option (List Int) := (some (([] : List Int) : List Int)).bind fun y397 => ((spec_IsLog.f k l0).bind fun t400 => (if t400 = true then (if y397.length < 17592186044416 then (spec_DigestList.l0 k l0 (y397 ++ [11]) 11 0) else (none)) else (some y397)))
theorem spec_DigestList.mono_l : ∀ k, (∀ y0 y1 y2 y3, uF (spec_DigestList.l0 k y0 y1 y2 y3) (spec_DigestList.l0 (k + 1) y0 y1 y2 y3))
  | 0 => fun _ _ _ _ r h => by simp [spec_DigestList.l0] at h
  | k + 1 => by
    have ih0 := spec_DigestList.mono_l k
    intro y0 y1 y2 y3
    unfold spec_DigestList.l0
    repeat' first
    | (with_reducible exact ih0 _ _ _ _)
    | (with_reducible exact spec_Checksum.mono _ _)
    | (with_reducible exact spec_FormatLog.mono _ _)
    | (with_reducible exact spec_IsLog.mono _ _)
    | (with_reducible exact uF.refl _)
    | (with_reducible exact uF.none _)
    | (with_reducible refine uF.ite ?_ ?_)
    | (with_reducible refine uF.bind ?_ (fun _ => ?_))
    | exact ih0 _ _ _ _
    | exact spec_Checksum.mono _ _
    | exact spec_FormatLog.mono _ _
    | exact spec_IsLog.mono _ _
    | exact uF.none _
    | refine uF.ite ?_ ?_
    | refine uF.bind ?_ (fun _ => ?_)
theorem spec_DigestList.mono : ∀ a0 k, uF (spec_DigestList.f k a0) (spec_DigestList.f (k + 1) a0) := by
  intro a0 k
  have ih0 := spec_DigestList.mono_l k
  unfold spec_DigestList.f
  repeat' first
      | (with_reducible exact ih0 _ _ _ _)
      | (with_reducible exact spec_Checksum.mono _ _)
      | (with_reducible exact spec_FormatLog.mono _ _)
      | (with_reducible exact spec_IsLog.mono _ _)
      | (with_reducible exact uF.refl _)
      | (with_reducible exact uF.none _)
      | (with_reducible refine uF.ite ?_ ?_)
      | (with_reducible refine uF.bind ?_ (fun _ => ?_))
      | exact ih0 _ _ _ _
      | exact spec_Checksum.mono _ _
      | exact spec_FormatLog.mono _ _
      | exact spec_IsLog.mono _ _
      | exact uF.none _
      | refine uF.ite ?_ ?_
      | refine uF.bind ?_ (fun _ => ?_)
set_option maxHeartbeats 8000000 in
set_option maxRecDepth 100000 in
theorem spec_DigestList.calls (k : Nat) (A0 : Option Addr) (c0 : Nat) (l0 : List (S66)) (r : List Int) (w : World) (hr0 : Kd.C k66 w A0 l0.length l0) (hc0 : l0.length ≤ c0) (h : spec_DigestList.f k l0 = some r) :
    Calls Tryd.prog 11 #[.slice A0 l0.length c0] w fun e w' => ∃ v0_ : Value, e = .returned (v0_) ∧ Kd.R (Kd.int .i64) 3 w' w.heap.size (fun _ => True) v0_ r ∧ Below w.heap.size w w' := by
  have HR0 := Aside0.mk hr0
  have HC0 := Aside0.mk hc0
  clear hr0 hc0
  have HB := Aside0.mk (Below.refl w.heap.size w)
  have H : ((some (([] : List Int) : List Int)).bind fun y397 => ((spec_IsLog.f k l0).bind fun t400 => (if t400 = true then (if y397.length < 17592186044416 then (spec_DigestList.l0 k l0 (y397 ++ [11]) 11 0) else (none)) else (some y397)))) = some r := h
  clear h
  obtain ⟨y397, hy397⟩ : ∃ y_ : List Int, y_ = (([] : List Int)) := ⟨_, rfl⟩
  replace H : ((spec_IsLog.f k l0).bind fun t400 => (if t400 = true then (if y397.length < 17592186044416 then (spec_DigestList.l0 k l0 (y397 ++ [11]) 11 0) else (none)) else (some y397))) = some r := by first | (rw [hy397]; with_reducible exact H) | (have H2_ := (Option.bind_some _ _).symm.trans H; rw [hy397]; with_reducible exact H2_) | (have H2_ := (Option.bind_some _ _).symm.trans H; with_reducible exact H2_) | with_reducible exact H | (rw [hy397]; exact H) | exact H | rfl
  have Ny397 := Aside0.mk hy397
  clear hy397
  replace H := Option.bind_eq_some_iff.mp H
  obtain ⟨t400, A20, H⟩ := H
  try dsimp only at H
  have A2 := Aside0.mk A20
  clear A20
  by_cases c3 : t400 = true
  rotate_left
  · replace c3 := Bool.eq_false_iff.mpr c3
    subst c3
    try rw [if_neg (show ¬ (false = true) by decide)] at H
    obtain rfl := Option.some.inj H
    go_enter Tryd.func11, Tryd.ntmps11
    go_wp2_with (first | ((with_reducible refine uR (N := 6) rfl ?_); refine Kd.R_lit (Kd.int .i64) _ 3 ?hg (N := 6) ?hd (xs := ([] : List Int)) (inner := []) (ok := fun _ => True) (okp := fun _ => True) ?hr ?hp (fun _ hk => hk) trivial (Below.refl _ _) (Nat.le_refl _) (by simp) ?_; (case hd => rfl); (case hg => rfl); (case hr => first | (go_simp; done) | (go_simp; rfl)); (case hp => exact (Reps.none _ _)); intro v398 w19 ho20 hb hg_ hnew_; clear hg_ hnew_; (first | rw [← Ny397.out] at ho20 | (simp only [Int.reduceToNat] at ho20; rw [← Ny397.out] at ho20)); have HO399 := Aside0.mk (Kd.uX ho20 (uU q0)); replace HB := uQ HB hb; clear hb ho20) | ((with_reducible refine uE (f := 15) rfl ?_); refine uL (some 8) Tryd.func15 #[.slice A0 l0.length c0] ?_; (with_reducible refine (spec_IsLog.calls k _ _ l0 false _ ?side1 ?side2 A2.out).mono ?_); (case side1 => exact q36); (case side2 => exact HC0.out); rintro e w21 ⟨rfl, hb⟩; refine ⟨_, rfl, ?_⟩; replace HO399 := Kd.tR HO399 hb; replace HB := uQ HB hb; (try clear hb); (try clear hb2); (try clear hk); (try clear hi)))
    go_ret
    exact ⟨_, q2, by (with_reducible repeat (first | apply Kd.uT | apply Kd.uS | apply Kd.uW)); exact HO399.out, q0⟩
  subst c3
  try rw [if_pos rfl] at H
  by_cases c4 : y397.length < 17592186044416
  rotate_left
  · rw [if_neg c4] at H
    exact absurd H (by simp)
  rw [if_pos c4] at H
  have LMc4 := Aside0.mk c4
  clear c4
  obtain ⟨y401, hy401⟩ : ∃ y_ : List Int, y_ = (y397 ++ [11]) := ⟨_, rfl⟩
  replace H : (spec_DigestList.l0 k l0 y401 11 0) = some r := by first | (rw [hy401]; with_reducible exact H) | (have H2_ := (Option.bind_some _ _).symm.trans H; rw [hy401]; with_reducible exact H2_) | (have H2_ := (Option.bind_some _ _).symm.trans H; with_reducible exact H2_) | with_reducible exact H | (rw [hy401]; exact H) | exact H | rfl
  have Ny401 := Aside0.mk hy401
  clear hy401
  have H' := Aside0.mk H
  clear H
  go_enter Tryd.func11, Tryd.ntmps11
  go_wp2_with (first | ((with_reducible refine uR (N := 6) rfl ?_); refine Kd.R_lit (Kd.int .i64) _ 3 ?hg (N := 6) ?hd (xs := ([] : List Int)) (inner := []) (ok := fun _ => True) (okp := fun _ => True) ?hr ?hp (fun _ hk => hk) trivial (Below.refl _ _) (Nat.le_refl _) (by simp) ?_; (case hd => rfl); (case hg => rfl); (case hr => first | (go_simp; done) | (go_simp; rfl)); (case hp => exact (Reps.none _ _)); intro v398 w5 ho6 hb hg_ hnew_; clear hg_ hnew_; (first | rw [← Ny397.out] at ho6 | (simp only [Int.reduceToNat] at ho6; rw [← Ny397.out] at ho6)); have HO399 := Aside0.mk (Kd.uX ho6 (uU q0)); replace HB := uQ HB hb; clear hb ho6) | ((with_reducible refine uE (f := 15) rfl ?_); refine uL (some 8) Tryd.func15 #[.slice A0 l0.length c0] ?_; (with_reducible refine (spec_IsLog.calls k _ _ l0 true _ ?side1 ?side2 A2.out).mono ?_); (case side1 => exact q36); (case side2 => exact HC0.out); rintro e w7 ⟨rfl, hb⟩; refine ⟨_, rfl, ?_⟩; replace HO399 := Kd.tR HO399 hb; replace HB := uQ HB hb; (try clear hb); (try clear hb2); (try clear hk); (try clear hi)) | ((with_reducible refine gate_builtin (b := .append) (xs := #[.tmp 11, .tmp 13]) rfl ?_); at_builtin; refine Kd.R_append (Kd.int .i64) (w0 := w) w.heap.size rfl (.tmp 11) (.tmp 13) 27 3 (.int .i64 0) 8 rfl Tryd.underlying27 info3 rfl (by decide) (by omega) v398 y397 11 [.int .i64 11] (fun _ => True) (fun _ => False) rfl rfl ?aP (fun _ hk => hk.elim) ?aF ?aO ?aB ?aS ?aL ?_; (case aP => exact rfl); (case aB => exact q51); (case aF => exact (fun _ _ => trivial)); (case aO => exact (rSR HO399.out)); (case aS => exact q40); (case aL => have := LMc4.out; omega); intro v402 w8 ho hb hg hat; rw [← Ny401.out] at ho; have n0_ := Aside0.mk (hb); have n1_ := Aside0.mk (ho); clear HB; clear HO399; have HB := n0_; have HO403 := n1_; clear n0_ n1_; clear ho hb hg hat))
  go_loopg [3, 4, 5] k (fun kq v3 v4 v5 w' => ∃ (x3_1 : List Int) (x4_1 : Int) (x5_1 : Int), v4 = .int .i64 x4_1 ∧ v5 = .int .i64 x5_1 ∧ Aside0 (spec_DigestList.l0 kq l0 x3_1 x4_1 x5_1 = some r) ∧ Aside0 (kq ≤ k) ∧ Aside0 (Kd.R (Kd.int .i64) 3 w' w.heap.size (fun _ => True) v3 x3_1) ∧ Aside0 (Below w.heap.size w w'))
  case atStart => exact ⟨(y401), (11), (0), q10, q10, H', ⟨Nat.le_refl _⟩, ⟨by (with_reducible repeat (first | apply Kd.uT | apply Kd.uS | apply Kd.uW)); exact HO403.out⟩, ⟨q0⟩⟩
  case round =>
    clear H'
    try clear c1
    try clear p2
    try clear c3
    try clear c4
    obtain ⟨x3_1, x4_1, x5_1, rfl, rfl, HA, HK1, HO_3, HB⟩ := hrel
    cases gk with
    | zero => exact absurd HA.out (by simp [spec_DigestList.l0])
    | succ k1 =>
      have H := HA.out
      clear HA
      simp only [spec_DigestList.l0] at H
      by_cases c9 : x5_1 < (l0.length : Int)
      rotate_left
      · rw [if_neg c9] at H
        have c9b0 : decide (x5_1 < (l0.length : Int)) = false := decide_eq_false c9
        clear c9
        obtain rfl := Option.some.inj H
        go_wp2
        go_ret
        exact ⟨_, q2, q55, q0⟩
      rw [if_pos c9] at H
      have c9b0 : decide (x5_1 < (l0.length : Int)) = true := decide_eq_true c9
      clear c9
      by_cases c10 : 0 ≤ x5_1
      rotate_left
      · rw [if_neg c10] at H
        exact absurd H (by simp)
      rw [if_pos c10] at H
      have c10b0 := eq_true c10
      have c10b1 : decide (0 ≤ x5_1) = true := decide_eq_true c10
      clear c10
      by_cases c11 : x5_1 ≤ (wrap64 (x5_1 + 1))
      rotate_left
      · rw [if_neg c11] at H
        exact absurd H (by simp)
      rw [if_pos c11] at H
      have c11b0 := eq_true c11
      have c11b1 : decide (x5_1 ≤ (wrap64 (x5_1 + 1))) = true := decide_eq_true c11
      by_cases c12 : (wrap64 (x5_1 + 1)) ≤ (l0.length : Int)
      rotate_left
      · rw [if_neg c12] at H
        exact absurd H (by simp)
      rw [if_pos c12] at H
      have c12b0 := eq_true c12
      have c12b1 : decide ((wrap64 (x5_1 + 1)) ≤ (l0.length : Int)) = true := decide_eq_true c12
      obtain ⟨y404, hy404⟩ : ∃ y_ : List (S66), y_ = ((l0.take ((wrap64 (x5_1 + 1)) : Int).toNat).drop (x5_1 : Int).toNat) := ⟨_, rfl⟩
      replace H : ((spec_FormatLog.f k1 y404).bind fun t408 => ((spec_Checksum.f k1 t408).bind fun t409 => (if x3_1.length < 17592186044416 then (spec_DigestList.l0 k1 l0 (x3_1 ++ [Int.tmod (wrap64 ((wrap64 (x4_1 * 31)) + t409)) 9973]) (Int.tmod (wrap64 ((wrap64 (x4_1 * 31)) + t409)) 9973) (wrap64 (x5_1 + 1))) else (none)))) = some r := by first | (rw [hy404]; with_reducible exact H) | (have H2_ := (Option.bind_some _ _).symm.trans H; rw [hy404]; with_reducible exact H2_) | (have H2_ := (Option.bind_some _ _).symm.trans H; with_reducible exact H2_) | with_reducible exact H | (rw [hy404]; exact H) | exact H | rfl
      have Ny404 := Aside0.mk hy404
      clear hy404
      replace H := Option.bind_eq_some_iff.mp H
      obtain ⟨t408, A130, H⟩ := H
      try dsimp only at H
      have A13 := Aside0.mk A130
      clear A130
      replace H := Option.bind_eq_some_iff.mp H
      obtain ⟨t409, A140, H⟩ := H
      try dsimp only at H
      have A14 := Aside0.mk A140
      clear A140
      by_cases c15 : x3_1.length < 17592186044416
      rotate_left
      · rw [if_neg c15] at H
        exact absurd H (by simp)
      rw [if_pos c15] at H
      have LMc15 := Aside0.mk c15
      clear c15
      obtain ⟨y410, hy410⟩ : ∃ y_ : List Int, y_ = (x3_1 ++ [Int.tmod (wrap64 ((wrap64 (x4_1 * 31)) + t409)) 9973]) := ⟨_, rfl⟩
      replace H : (spec_DigestList.l0 k1 l0 y410 (Int.tmod (wrap64 ((wrap64 (x4_1 * 31)) + t409)) 9973) (wrap64 (x5_1 + 1))) = some r := by first | (rw [hy410]; with_reducible exact H) | (have H2_ := (Option.bind_some _ _).symm.trans H; rw [hy410]; with_reducible exact H2_) | (have H2_ := (Option.bind_some _ _).symm.trans H; with_reducible exact H2_) | with_reducible exact H | (rw [hy410]; exact H) | exact H | rfl
      have Ny410 := Aside0.mk hy410
      clear hy410
      have H' := Aside0.mk H
      clear H
      have q16 : ((wrap64 (x5_1 + 1)) : Int) ≤ ((l0.length : Int) : Int) := of_decide_eq_true q9
      obtain ⟨i016, hi016, _, hsz16, _⟩ := info_parts info66
      have hroom16 : l0.length ≤ c0 := HC0.out
      have hC16 : Kd.C k66 _ A0 l0.length l0 := HR0.out
      have ql16 : (x5_1 : Int) ≤ ((wrap64 (x5_1 + 1)) : Int) := of_decide_eq_true q9
      have q016 : (0 : Int) ≤ (x5_1 : Int) := of_decide_eq_true q9
      have hcut16 := cut_mid (P := Tryd.prog) 24 66 .i64 .i64 Tryd.underlying24 hi016 7 hsz16 A0 l0.length c0 x5_1 (wrap64 (x5_1 + 1)) q016 ql16 q16 hroom16
      have hr16 := Kd.C_mid (lo := (x5_1 : Int).toNat) (hi := ((wrap64 (x5_1 + 1)) : Int).toNat) (c := c0) hC16 (by omega) (by omega) hroom16
      obtain ⟨A16, hA16⟩ : ∃ A1, A1 = (if c0 = (x5_1 : Int).toNat then A0 else (A0 : Option Addr).map (·.add ((x5_1 : Int).toNat * 7))) := ⟨_, rfl⟩
      obtain ⟨c16, hc16⟩ : ∃ c1, c1 = c0 - (x5_1 : Int).toNat := ⟨_, rfl⟩
      have hy16 : y404.length = ((wrap64 (x5_1 + 1)) : Int).toNat - (x5_1 : Int).toNat := (by rw [Ny404.out, List.length_drop, List.length_take] <;> omega)
      rw [show ((l0).take ((wrap64 (x5_1 + 1)) : Int).toNat).drop (x5_1 : Int).toNat = y404 from Ny404.out.symm] at hr16
      replace hr16 : Kd.C k66 _ A16 y404.length y404 := (by rw [hA16]; exact hr16)
      rw [← hy16, ← hA16, ← hc16] at hcut16
      have HR407 := Aside0.mk hr16
      have HC407 := Aside0.mk (show y404.length ≤ c16 from by rw [hy16, hc16]; exact Nat.sub_le_sub_right (Nat.le_trans (by omega) hroom16) _)
      clear hr16 hC16 hroom16 hi016 hsz16 hc16
      have KY16 := Aside0.mk hy16
      have KA16 := Aside0.mk hA16
      clear hy16 hA16
      replace q16 := eq_true q16
      go_wp2_with (first | ((with_reducible refine uE (f := 47) rfl ?_); refine uL (some 28) Tryd.func47 #[.slice A16 y404.length c16] ?_; (with_reducible refine (spec_FormatLog.calls k1 _ _ y404 t408 _ ?side1 ?side2 A13.out).mono ?_); (case side1 => repeat (first | exact (Kd.C_below HR407.out HB.out) | (with_reducible refine Kd.C_alloc ?_ _) | (with_reducible refine Kd.C_drewN ?_ _) | (with_reducible refine Kd.C_drew ?_))); (case side2 => exact HC407.out); rintro e w17 ⟨rfl, hb⟩; refine ⟨_, rfl, ?_⟩; replace HO_3 := Kd.tR HO_3 hb; replace HB := uQ HB hb; (try clear hb); (try clear hb2); (try clear hk); (try clear hi)) | ((with_reducible refine uE (f := 46) rfl ?_); refine uL (some 29) Tryd.func46 #[.string t408] ?_; (with_reducible refine (spec_Checksum.calls k1 t408 t409 _ A14.out).mono ?_); rintro e w' ⟨rfl, ⟨nd, rfl⟩⟩; refine ⟨_, rfl, ?_⟩) | ((with_reducible refine gate_builtin (b := .append) (xs := #[.tmp 32, .tmp 34]) rfl ?_); at_builtin; refine Kd.R_append (Kd.int .i64) (w0 := w) w.heap.size rfl (.tmp 32) (.tmp 34) 27 3 (.int .i64 0) 8 rfl Tryd.underlying27 info3 rfl (by decide) (by omega) u3 x3_1 (Int.tmod (wrap64 ((wrap64 (x4_1 * 31)) + t409)) 9973) [.int .i64 (Int.tmod (wrap64 ((wrap64 (x4_1 * 31)) + t409)) 9973)] (fun _ => True) (fun _ => False) rfl rfl ?aP (fun _ hk => hk.elim) ?aF ?aO ?aB ?aS ?aL ?_; (case aP => exact rfl); (case aB => exact q51); (case aF => exact (fun _ _ => trivial)); (case aO => exact (rSR HO_3.out)); (case aS => exact q40); (case aL => have := LMc15.out; omega); intro v411 w18 ho hb hg hat; rw [← Ny410.out] at ho; have n0_ := Aside0.mk (hb); have n1_ := Aside0.mk (ho); clear HB; clear HO_3; have HB := n0_; have HO412 := n1_; clear n0_ n1_; clear ho hb hg hat))
      go_roundg k1
      case measure => have := HK1.out; omega
      case rel => exact ⟨(y410), (Int.tmod (wrap64 ((wrap64 (x4_1 * 31)) + t409)) 9973), (wrap64 (x5_1 + 1)), q10, q10, H', ⟨by have := HK1.out; omega⟩, ⟨by (with_reducible repeat (first | apply Kd.uT | apply Kd.uS | apply Kd.uW)); exact HO412.out⟩, ⟨q0⟩⟩

end Go.Proofs.YtcikahnmiiichaaDoor.G
