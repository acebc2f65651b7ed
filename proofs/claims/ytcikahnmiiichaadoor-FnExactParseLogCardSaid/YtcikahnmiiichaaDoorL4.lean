/- Go functions as Lean functions, and the proof that the code comes to them: written by a program of this session out of the translation. -/
import Derived.Test.YtcikahnmiiichaaDoorL0
import Derived.Test.YtcikahnmiiichaaDoorL1
import Derived.Test.YtcikahnmiiichaaDoorL2
import Derived.Test.YtcikahnmiiichaaDoorL3
namespace Go.Proofs.YtcikahnmiiichaaDoor.L
open List renaming setIfInBounds_toArray → vD, set_cons_zero → vE, set_cons_succ → vF
open Go.World renaming block_lt_of_cell? → vJ
open Go.Proofs.YtcikahnmiiichaaDoor.Given
open Go.RowKit Go.Proofs.YtcikahnmiiichaaDoorW.PrintWords Go.Proofs.YtcikahnmiiichaaDoorW.PrintLast Go.Proofs.YtcikahnmiiichaaDoorW.PrintMore
attribute [local go_sem] max2_int min2_int max_two min_two max_three min_three max_four min_four   -- for this text's walks alone
set_option linter.unusedVariables false
set_option linter.unusedSimpArgs false

/-! ### spec_FormatLog: function 47 -/
def spec_FormatLog.l0 : Nat → List (S66) → ByteArray → Int → Option (ByteArray)
  | 0, _, _, _ => none
  | k + 1, x0, x3, x4 => if x4 < (x0.length : Int) then (if x4 > 0 then (if x3.size + 1 ≤ 9223372036854775807 then (if 0 ≤ x4 then ((spec_FormatInt.f k ((rd_T66 x0 x4).f0)).bind fun t125 => (if (x3 ++ (⟨#[59]⟩ : ByteArray)).size + t125.size ≤ 9223372036854775807 then (if ((x3 ++ (⟨#[59]⟩ : ByteArray)) ++ t125).size + 1 ≤ 9223372036854775807 then ((spec_FormatOp.f k ((rd_T66 x0 x4).f1.f0) ((rd_T66 x0 x4).f1.f1) ((rd_T66 x0 x4).f1.f2) ((rd_T66 x0 x4).f1.f3) ((rd_T66 x0 x4).f1.f4) ((rd_T66 x0 x4).f1.f5)).bind fun t127 => (if (((x3 ++ (⟨#[59]⟩ : ByteArray)) ++ t125) ++ (⟨#[58]⟩ : ByteArray)).size + t127.size ≤ 9223372036854775807 then (spec_FormatLog.l0 k x0 ((((x3 ++ (⟨#[59]⟩ : ByteArray)) ++ t125) ++ (⟨#[58]⟩ : ByteArray)) ++ t127) (wrap64 (x4 + 1))) else (none))) else (none)) else (none))) else (none)) else (none)) else (if 0 ≤ x4 then ((spec_FormatInt.f k ((rd_T66 x0 x4).f0)).bind fun t129 => (if x3.size + t129.size ≤ 9223372036854775807 then (if (x3 ++ t129).size + 1 ≤ 9223372036854775807 then ((spec_FormatOp.f k ((rd_T66 x0 x4).f1.f0) ((rd_T66 x0 x4).f1.f1) ((rd_T66 x0 x4).f1.f2) ((rd_T66 x0 x4).f1.f3) ((rd_T66 x0 x4).f1.f4) ((rd_T66 x0 x4).f1.f5)).bind fun t131 => (if ((x3 ++ t129) ++ (⟨#[58]⟩ : ByteArray)).size + t131.size ≤ 9223372036854775807 then (spec_FormatLog.l0 k x0 (((x3 ++ t129) ++ (⟨#[58]⟩ : ByteArray)) ++ t131) (wrap64 (x4 + 1))) else (none))) else (none)) else (none))) else (none))) else (some x3)
def spec_FormatLog.f (k : Nat) (l0 : List (S66)) : Option (ByteArray) := (spec_IsLog.f k l0).bind fun t123 => (if t123 = true then (if (l0.length : Int) = 0 then (some (⟨#[110, 111, 110, 101]⟩ : ByteArray)) else (spec_FormatLog.l0 k l0 (⟨#[]⟩ : ByteArray) 0)) else (some (⟨#[]⟩ : ByteArray)))
theorem spec_FormatLog.mono_l : ∀ k, (∀ y0 y1 y2, uE (spec_FormatLog.l0 k y0 y1 y2) (spec_FormatLog.l0 (k + 1) y0 y1 y2))
  | 0 => fun _ _ _ r h => by simp [spec_FormatLog.l0] at h
  | k + 1 => by
    have ih0 := spec_FormatLog.mono_l k
    intro y0 y1 y2
    unfold spec_FormatLog.l0
    repeat' first
    | (with_reducible exact ih0 _ _ _)
    | (with_reducible exact spec_FormatInt.mono _ _)
    | (with_reducible exact spec_FormatOp.mono _ _ _ _ _ _ _)
    | (with_reducible exact spec_IsLog.mono _ _)
    | (with_reducible exact uE.refl _)
    | (with_reducible exact uE.none _)
    | (with_reducible refine uE.ite ?_ ?_)
    | (with_reducible refine uE.bind ?_ (fun _ => ?_))
    | exact ih0 _ _ _
    | exact uE.none _
    | refine uE.ite ?_ ?_
    | refine uE.bind ?_ (fun _ => ?_)
theorem spec_FormatLog.mono : ∀ a0 k, uE (spec_FormatLog.f k a0) (spec_FormatLog.f (k + 1) a0) := by
  intro a0 k
  have ih0 := spec_FormatLog.mono_l k
  unfold spec_FormatLog.f
  repeat' first
      | (with_reducible exact ih0 _ _ _)
      | (with_reducible exact spec_FormatInt.mono _ _)
      | (with_reducible exact spec_FormatOp.mono _ _ _ _ _ _ _)
      | (with_reducible exact spec_IsLog.mono _ _)
      | (with_reducible exact uE.refl _)
      | (with_reducible exact uE.none _)
      | (with_reducible refine uE.ite ?_ ?_)
      | (with_reducible refine uE.bind ?_ (fun _ => ?_))
      | exact ih0 _ _ _
      | exact uE.none _
      | refine uE.ite ?_ ?_
      | refine uE.bind ?_ (fun _ => ?_)
def spec_FormatLog.T11 : Bool × List (List Nat × List Nat) := (true, [([], []), ([], []), ([], []), ([1, 2], [1, 2]), ([3], [3]), ([4], [4]), ([5], [5]), ([0, 6], [0, 6]), ([7], [7]), ([], []), ([], []), ([9, 10], [9, 10]), ([11], [11]), ([12], [12]), ([13, 6], [13]), ([8, 14], [8, 14]), ([15, 14, 0, 1, 2, 3, 4, 5, 6, 7, 8, 9, 10, 11, 12, 13, 14, 15], [0, 15])])
def spec_FormatLog.B11 : List Nat := [0, 0, 0, 6, 14, 30, 62, 127, 255, 0, 0, 1536, 3584, 7680, 15998, 32767, 65535]
theorem spec_FormatLog.tab11 : rtab .any (opsOf Tryd.f47 11) = spec_FormatLog.T11 := by kernel_rfl
theorem spec_FormatLog.bits11 : waitsOk spec_FormatLog.T11.2 spec_FormatLog.B11 = true := by kernel_rfl
set_option maxHeartbeats 8000000 in
set_option maxRecDepth 100000 in
theorem spec_FormatLog.calls (k : Nat) (A0 : Option Addr) (c0 : Nat) (l0 : List (S66)) (r : ByteArray) (w : World) (hr0 : Kd.C k66 w A0 l0.length l0) (hc0 : l0.length ≤ c0) (h : spec_FormatLog.f k l0 = some r) :
    Calls Tryd.prog 47 #[.slice A0 l0.length c0] w fun e w' => e = .returned (.string r) ∧ Below w.heap.size w w' := by
  have hu64 := Tryd.underlying64
  have HR0 := Aside0.mk hr0
  have HC0 := Aside0.mk hc0
  clear hr0 hc0
  have HB := Aside0.mk (Below.refl w.heap.size w)
  have H : ((spec_IsLog.f k l0).bind fun t123 => (if t123 = true then (if (l0.length : Int) = 0 then (some (⟨#[110, 111, 110, 101]⟩ : ByteArray)) else (spec_FormatLog.l0 k l0 (⟨#[]⟩ : ByteArray) 0)) else (some (⟨#[]⟩ : ByteArray)))) = some r := h
  clear h
  replace H := Option.bind_eq_some_iff.mp H
  obtain ⟨t123, A20, H⟩ := H
  try dsimp only at H
  have A2 := Aside0.mk A20
  clear A20
  by_cases c3 : t123 = true
  rotate_left
  · replace c3 := Bool.eq_false_iff.mpr c3
    subst c3
    try rw [if_neg (show ¬ (false = true) by decide)] at H
    obtain rfl := Option.some.inj H
    go_enter Tryd.func47, Tryd.ntmps47
    go_wp2_with (first | ((with_reducible refine uM (f := 15) rfl ?_); refine uY (some 6) Tryd.func15 #[.slice A0 l0.length c0] ?_; (with_reducible refine (spec_IsLog.calls k _ _ l0 false _ ?side1 ?side2 A2.out).mono ?_); (case side1 => exact cq25); (case side2 => exact HC0.out); rintro e w28 ⟨rfl, hb⟩; refine ⟨_, rfl, ?_⟩; replace HB := uR HB hb; (try clear hb)))
    go_ret
    exact ⟨cq3, cq1⟩
  subst c3
  try rw [if_pos rfl] at H
  go_enter Tryd.func47, Tryd.ntmps47
  go_wp2_with (first | ((with_reducible refine uM (f := 15) rfl ?_); refine uY (some 6) Tryd.func15 #[.slice A0 l0.length c0] ?_; (with_reducible refine (spec_IsLog.calls k _ _ l0 true _ ?side1 ?side2 A2.out).mono ?_); (case side1 => exact cq25); (case side2 => exact HC0.out); rintro e w5 ⟨rfl, hb⟩; refine ⟨_, rfl, ?_⟩; replace HB := uR HB hb; (try clear hb); refine ?roundEnd))
  case roundEnd =>
  by_cases c4 : (l0.length : Int) = 0
  · rw [if_pos c4] at H
    have c4b0 := beq_iff_eq.mpr c4
    have c4b1 := bne_eq_false_iff_eq.mpr c4
    clear c4
    obtain rfl := Option.some.inj H
    go_wp2
    go_ret
    exact ⟨cq3, cq1⟩
  rw [if_neg c4] at H
  have c4b0 := beq_eq_false_iff_ne.mpr c4
  have c4b1 := bne_iff_ne.mpr c4
  have c4b2 : ¬ (l0 = []) := fun h_ => c4 (by rw [h_]; rfl)
  have H' := Aside0.mk H
  clear H
  go_wp2
  go_loopg [3, 4] k (fun kq v3 v4 w' => ∃ (x3_1 : ByteArray) (x4_1 : Int), v3 = .string x3_1 ∧ v4 = .int .i64 x4_1 ∧ Aside0 (spec_FormatLog.l0 kq l0 x3_1 x4_1 = some r) ∧ Aside0 (kq ≤ k) ∧ Aside0 (Below w.heap.size w w'))
  case atStart => exact ⟨((⟨#[]⟩ : ByteArray)), (0), cq6, cq6, H', ⟨Nat.le_refl _⟩, ⟨cq1⟩⟩
  case round =>
    clear H'
    try clear c3
    try clear c4
    try clear c4b0
    try clear c4b1
    try clear c4b2
    obtain ⟨x3_1, x4_1, rfl, rfl, HA, HK1, HB⟩ := hrel
    cases gk with
    | zero => exact absurd HA.out (by simp [spec_FormatLog.l0])
    | succ k1 =>
      have H := HA.out
      clear HA
      simp only [spec_FormatLog.l0] at H
      by_cases c7 : x4_1 < (l0.length : Int)
      rotate_left
      · rw [if_neg c7] at H
        have c7b0 := decide_eq_false c7
        clear c7
        obtain rfl := Option.some.inj H
        go_wp2
        go_ret
        exact ⟨cq3, cq1⟩
      rw [if_pos c7] at H
      have c7b0 := decide_eq_true c7
      clear c7
      by_cases c8 : x4_1 > 0
      rotate_left
      · rw [if_neg c8] at H
        have c8b0 := decide_eq_false c8
        clear c8
        obtain ⟨c19b0, H⟩ := ifD H
        replace H := Option.bind_eq_some_iff.mp H
        obtain ⟨t129, A200, H⟩ := H
        try dsimp only at H
        have A20 := Aside0.mk A200
        clear A200
        by_cases c21 : x3_1.size + t129.size ≤ 9223372036854775807
        rotate_left
        · rw [if_neg c21] at H
          exact absurd H (by simp)
        rw [if_pos c21] at H
        have c21b0 := eq_true c21
        have c21b1 := decide_eq_true c21
        try have c21b2 : (9223372036854775807 < x3_1.size + t129.size) = False := eq_false (Nat.not_lt.2 c21)
        by_cases c22 : (x3_1 ++ t129).size + 1 ≤ 9223372036854775807
        rotate_left
        · rw [if_neg c22] at H
          exact absurd H (by simp)
        rw [if_pos c22] at H
        have c22b0 := eq_true c22
        have c22b1 := decide_eq_true c22
        try have c22b2 : (9223372036854775807 < (x3_1 ++ t129).size + 1) = False := eq_false (Nat.not_lt.2 c22)
        have c22b3 : (9223372036854775807 < x3_1.size + t129.size + 1) = False := eq_false (Nat.not_lt.2 (by have z_ := c22; (repeat rw [ByteArray.size_append] at z_); exact z_))
        replace H := Option.bind_eq_some_iff.mp H
        obtain ⟨t131, A230, H⟩ := H
        try dsimp only at H
        have A23 := Aside0.mk A230
        clear A230
        by_cases c24 : ((x3_1 ++ t129) ++ (⟨#[58]⟩ : ByteArray)).size + t131.size ≤ 9223372036854775807
        rotate_left
        · rw [if_neg c24] at H
          exact absurd H (by simp)
        rw [if_pos c24] at H
        have c24b0 := eq_true c24
        have c24b1 := decide_eq_true c24
        try have c24b2 : (9223372036854775807 < ((x3_1 ++ t129) ++ (⟨#[58]⟩ : ByteArray)).size + t131.size) = False := eq_false (Nat.not_lt.2 c24)
        have c24b3 : (9223372036854775807 < x3_1.size + t129.size + 1 + t131.size) = False := eq_false (Nat.not_lt.2 (by have z_ := c24; (repeat rw [ByteArray.size_append] at z_); exact z_))
        have H' := Aside0.mk H
        clear H
        try go_wp2
        replace HB := Aside0.mk (vB HB.out)
        have p128 : 0 ≤ (x4_1 : Int) := of_decide_eq_true uL
        have q128 : x4_1 < (l0.length : Int) := of_decide_eq_true uL
        obtain ⟨ad128, e128, hx128_0, hx128_1, hx128_2, hx128_3, hx128_4, hx128_5, hx128_6⟩ := at_T66 HR0.out x4_1 p128 q128
        have hw128_6 := hx128_6
        have hw128_5 := hx128_5
        have hw128_4 := hx128_4
        have hw128_3 := hx128_3
        have hw128_2 := hx128_2
        have hw128_1 := hx128_1
        have hw128_0 := hx128_0
        cases e128
        replace hx128_0 := (HB.out.cell (vJ w _ hx128_0)).trans hx128_0
        replace hx128_1 := (HB.out.cell (vJ w _ hx128_1)).trans hx128_1
        replace hx128_2 := (HB.out.cell (vJ w _ hx128_2)).trans hx128_2
        replace hx128_3 := (HB.out.cell (vJ w _ hx128_3)).trans hx128_3
        replace hx128_4 := (HB.out.cell (vJ w _ hx128_4)).trans hx128_4
        replace hx128_5 := (HB.out.cell (vJ w _ hx128_5)).trans hx128_5
        replace hx128_6 := (HB.out.cell (vJ w _ hx128_6)).trans hx128_6
        replace p128 := eq_true p128
        replace q128 := eq_true q128
        have p130 : 0 ≤ (x4_1 : Int) := of_decide_eq_true uL
        have q130 : x4_1 < (l0.length : Int) := of_decide_eq_true uL
        obtain ⟨ad130, e130, hx130_0, hx130_1, hx130_2, hx130_3, hx130_4, hx130_5, hx130_6⟩ := at_T66 HR0.out x4_1 p130 q130
        have hw130_6 := hx130_6
        have hw130_5 := hx130_5
        have hw130_4 := hx130_4
        have hw130_3 := hx130_3
        have hw130_2 := hx130_2
        have hw130_1 := hx130_1
        have hw130_0 := hx130_0
        obtain rfl : ad128 = ad130 := (by injection e130)
        replace hx130_0 := (HB.out.cell (vJ w _ hx130_0)).trans hx130_0
        replace hx130_1 := (HB.out.cell (vJ w _ hx130_1)).trans hx130_1
        replace hx130_2 := (HB.out.cell (vJ w _ hx130_2)).trans hx130_2
        replace hx130_3 := (HB.out.cell (vJ w _ hx130_3)).trans hx130_3
        replace hx130_4 := (HB.out.cell (vJ w _ hx130_4)).trans hx130_4
        replace hx130_5 := (HB.out.cell (vJ w _ hx130_5)).trans hx130_5
        replace hx130_6 := (HB.out.cell (vJ w _ hx130_6)).trans hx130_6
        replace p130 := eq_true p130
        replace q130 := eq_true q130
        refine start_ (n := 17) (S := fun w' => w'.cell? (ad128.add ((x4_1).toNat * 7)) = some (.int .i64 ((rd_T66 l0 x4_1).f0)) ∧ w'.cell? ⟨(ad128.add ((x4_1).toNat * 7)).block, (ad128.add ((x4_1).toNat * 7)).off + 1, none⟩ = some (.int .i64 ((rd_T66 l0 x4_1).f1.f0)) ∧ w'.cell? ⟨(ad128.add ((x4_1).toNat * 7)).block, (ad128.add ((x4_1).toNat * 7)).off + 2, none⟩ = some (.int .i64 ((rd_T66 l0 x4_1).f1.f1)) ∧ w'.cell? ⟨(ad128.add ((x4_1).toNat * 7)).block, (ad128.add ((x4_1).toNat * 7)).off + 3, none⟩ = some (.int .i64 ((rd_T66 l0 x4_1).f1.f2)) ∧ w'.cell? ⟨(ad128.add ((x4_1).toNat * 7)).block, (ad128.add ((x4_1).toNat * 7)).off + 4, none⟩ = some (.int .i64 ((rd_T66 l0 x4_1).f1.f3)) ∧ w'.cell? ⟨(ad128.add ((x4_1).toNat * 7)).block, (ad128.add ((x4_1).toNat * 7)).off + 5, none⟩ = some (.int .i64 ((rd_T66 l0 x4_1).f1.f4)) ∧ w'.cell? ⟨(ad128.add ((x4_1).toNat * 7)).block, (ad128.add ((x4_1).toNat * 7)).off + 6, none⟩ = some (.int .i64 ((rd_T66 l0 x4_1).f1.f5)) ∧ w'.cell? (ad128.add ((x4_1).toNat * 7)) = some (.int .i64 ((rd_T66 l0 x4_1).f0)) ∧ w'.cell? ⟨(ad128.add ((x4_1).toNat * 7)).block, (ad128.add ((x4_1).toNat * 7)).off + 1, none⟩ = some (.int .i64 ((rd_T66 l0 x4_1).f1.f0)) ∧ w'.cell? ⟨(ad128.add ((x4_1).toNat * 7)).block, (ad128.add ((x4_1).toNat * 7)).off + 2, none⟩ = some (.int .i64 ((rd_T66 l0 x4_1).f1.f1)) ∧ w'.cell? ⟨(ad128.add ((x4_1).toNat * 7)).block, (ad128.add ((x4_1).toNat * 7)).off + 3, none⟩ = some (.int .i64 ((rd_T66 l0 x4_1).f1.f2)) ∧ w'.cell? ⟨(ad128.add ((x4_1).toNat * 7)).block, (ad128.add ((x4_1).toNat * 7)).off + 4, none⟩ = some (.int .i64 ((rd_T66 l0 x4_1).f1.f3)) ∧ w'.cell? ⟨(ad128.add ((x4_1).toNat * 7)).block, (ad128.add ((x4_1).toNat * 7)).off + 5, none⟩ = some (.int .i64 ((rd_T66 l0 x4_1).f1.f4)) ∧ w'.cell? ⟨(ad128.add ((x4_1).toNat * 7)).block, (ad128.add ((x4_1).toNat * 7)).off + 6, none⟩ = some (.int .i64 ((rd_T66 l0 x4_1).f1.f5))) (ds := []) tb0 (by kernel_rfl) rfl rfl ⟨((HB.out.cell (vJ w _ hw128_0)).trans hw128_0), ((HB.out.cell (vJ w _ hw128_1)).trans hw128_1), ((HB.out.cell (vJ w _ hw128_2)).trans hw128_2), ((HB.out.cell (vJ w _ hw128_3)).trans hw128_3), ((HB.out.cell (vJ w _ hw128_4)).trans hw128_4), ((HB.out.cell (vJ w _ hw128_5)).trans hw128_5), ((HB.out.cell (vJ w _ hw128_6)).trans hw128_6), ((HB.out.cell (vJ w _ hw130_0)).trans hw130_0), ((HB.out.cell (vJ w _ hw130_1)).trans hw130_1), ((HB.out.cell (vJ w _ hw130_2)).trans hw130_2), ((HB.out.cell (vJ w _ hw130_3)).trans hw130_3), ((HB.out.cell (vJ w _ hw130_4)).trans hw130_4), ((HB.out.cell (vJ w _ hw130_5)).trans hw130_5), ((HB.out.cell (vJ w _ hw130_6)).trans hw130_6)⟩ (fun hHeld => ?_); refine with_tabW spec_FormatLog.tab11 spec_FormatLog.bits11 (fun HT_ HW_ => ?_)
        generalize wr.drew = w25 at HB hx128_0 hx128_1 hx128_2 hx128_3 hx128_4 hx128_5 hx128_6 hx130_0 hx130_1 hx130_2 hx130_3 hx130_4 hx130_5 hx130_6 hHeld ⊢
        refine uJ 0 (some 21) tb1 ?_
        refine uJ 1 (some 22) tb2 ?_
        refine uJ 2 (some 23) tb3 ?_
        refine uJ 3 (some 24) tb32 ?_
        refine uJ 4 (some 25) tb36 ?_
        refine uJ 9 (some 30) tb40 ?_
        refine uJ 10 (some 31) tb43 ?_
        refine uJ 11 (some 32) tb46 ?_
        refine uJ 12 (some 33) tb50 ?_
        refine takeT 5 (some 26) tb52 ?_
        refine takeT 13 (some 34) tb55 ?_
        refine oneT 6 (some 27) tb57 (fun K hK => ?_)
        refine goesT Tryd.func90 #[.int .i64 ((rd_T66 l0 x4_1).f0)] ?_
        with_reducible refine (spec_FormatInt.calls k1 ((rd_T66 l0 x4_1).f0) t129 _ A20.out).mono ?_
        rintro e w26 ⟨rfl, hb⟩
        refine ⟨_, rfl, ?_⟩
        replace HB := uR HB hb
        (try clear hb)
        refine hK.out _ _ ⟨((HB.out.cell (vJ w _ hw128_0)).trans hw128_0), ((HB.out.cell (vJ w _ hw128_1)).trans hw128_1), ((HB.out.cell (vJ w _ hw128_2)).trans hw128_2), ((HB.out.cell (vJ w _ hw128_3)).trans hw128_3), ((HB.out.cell (vJ w _ hw128_4)).trans hw128_4), ((HB.out.cell (vJ w _ hw128_5)).trans hw128_5), ((HB.out.cell (vJ w _ hw128_6)).trans hw128_6), ((HB.out.cell (vJ w _ hw130_0)).trans hw130_0), ((HB.out.cell (vJ w _ hw130_1)).trans hw130_1), ((HB.out.cell (vJ w _ hw130_2)).trans hw130_2), ((HB.out.cell (vJ w _ hw130_3)).trans hw130_3), ((HB.out.cell (vJ w _ hw130_4)).trans hw130_4), ((HB.out.cell (vJ w _ hw130_5)).trans hw130_5), ((HB.out.cell (vJ w _ hw130_6)).trans hw130_6)⟩ (fun hHeld => ?_)
        clear hK K
        refine uW ?_
        refine uJ 7 (some 28) tb59 ?_
        refine uJ 8 (some 29) tb4 ?_
        refine oneT 14 (some 35) tb5 (fun K hK => ?_)
        refine goesT Tryd.func91 #[.agg #[.int .i64 ((rd_T66 l0 x4_1).f1.f0), .int .i64 ((rd_T66 l0 x4_1).f1.f1), .int .i64 ((rd_T66 l0 x4_1).f1.f2), .int .i64 ((rd_T66 l0 x4_1).f1.f3), .int .i64 ((rd_T66 l0 x4_1).f1.f4), .int .i64 ((rd_T66 l0 x4_1).f1.f5)]] ?_
        with_reducible refine (spec_FormatOp.calls k1 ((rd_T66 l0 x4_1).f1.f0) ((rd_T66 l0 x4_1).f1.f1) ((rd_T66 l0 x4_1).f1.f2) ((rd_T66 l0 x4_1).f1.f3) ((rd_T66 l0 x4_1).f1.f4) ((rd_T66 l0 x4_1).f1.f5) t131 _ A23.out).mono ?_
        rintro e w27 ⟨rfl, hb⟩
        refine ⟨_, rfl, ?_⟩
        replace HB := uR HB hb
        (try clear hb)
        refine hK.out _ _ ⟨((HB.out.cell (vJ w _ hw128_0)).trans hw128_0), ((HB.out.cell (vJ w _ hw128_1)).trans hw128_1), ((HB.out.cell (vJ w _ hw128_2)).trans hw128_2), ((HB.out.cell (vJ w _ hw128_3)).trans hw128_3), ((HB.out.cell (vJ w _ hw128_4)).trans hw128_4), ((HB.out.cell (vJ w _ hw128_5)).trans hw128_5), ((HB.out.cell (vJ w _ hw128_6)).trans hw128_6), ((HB.out.cell (vJ w _ hw130_0)).trans hw130_0), ((HB.out.cell (vJ w _ hw130_1)).trans hw130_1), ((HB.out.cell (vJ w _ hw130_2)).trans hw130_2), ((HB.out.cell (vJ w _ hw130_3)).trans hw130_3), ((HB.out.cell (vJ w _ hw130_4)).trans hw130_4), ((HB.out.cell (vJ w _ hw130_5)).trans hw130_5), ((HB.out.cell (vJ w _ hw130_6)).trans hw130_6)⟩ (fun hHeld => ?_)
        clear hK K
        refine uW ?_
        refine uJ 15 (some 36) tb6 ?_
        refine uJ 16 (some 3) tb8 ?_
        refine done_ (done_of HT_.out (by kernel_rfl)) ?_
        try go_wp2
        go_roundg k1
        case measure => have := HK1.out; omega
        case rel => exact ⟨(((x3_1 ++ t129) ++ (⟨#[58]⟩ : ByteArray)) ++ t131), (wrap64 (x4_1 + 1)), cq6, cq6, H', ⟨by have := HK1.out; omega⟩, ⟨cq1⟩⟩
      rw [if_pos c8] at H
      have c8b0 := decide_eq_true c8
      clear c8
      by_cases c9 : x3_1.size + 1 ≤ 9223372036854775807
      rotate_left
      · rw [if_neg c9] at H
        exact absurd H (by simp)
      rw [if_pos c9] at H
      have c9b0 := eq_true c9
      have c9b1 := decide_eq_true c9
      try have c9b2 : (9223372036854775807 < x3_1.size + 1) = False := eq_false (Nat.not_lt.2 c9)
      obtain ⟨c10b0, H⟩ := ifD H
      replace H := Option.bind_eq_some_iff.mp H
      obtain ⟨t125, A110, H⟩ := H
      try dsimp only at H
      have A11 := Aside0.mk A110
      clear A110
      by_cases c12 : (x3_1 ++ (⟨#[59]⟩ : ByteArray)).size + t125.size ≤ 9223372036854775807
      rotate_left
      · rw [if_neg c12] at H
        exact absurd H (by simp)
      rw [if_pos c12] at H
      have c12b0 := eq_true c12
      have c12b1 := decide_eq_true c12
      try have c12b2 : (9223372036854775807 < (x3_1 ++ (⟨#[59]⟩ : ByteArray)).size + t125.size) = False := eq_false (Nat.not_lt.2 c12)
      have c12b3 : (9223372036854775807 < x3_1.size + 1 + t125.size) = False := eq_false (Nat.not_lt.2 (by have z_ := c12; (repeat rw [ByteArray.size_append] at z_); exact z_))
      by_cases c13 : ((x3_1 ++ (⟨#[59]⟩ : ByteArray)) ++ t125).size + 1 ≤ 9223372036854775807
      rotate_left
      · rw [if_neg c13] at H
        exact absurd H (by simp)
      rw [if_pos c13] at H
      have c13b0 := eq_true c13
      have c13b1 := decide_eq_true c13
      try have c13b2 : (9223372036854775807 < ((x3_1 ++ (⟨#[59]⟩ : ByteArray)) ++ t125).size + 1) = False := eq_false (Nat.not_lt.2 c13)
      have c13b3 : (9223372036854775807 < x3_1.size + 1 + t125.size + 1) = False := eq_false (Nat.not_lt.2 (by have z_ := c13; (repeat rw [ByteArray.size_append] at z_); exact z_))
      replace H := Option.bind_eq_some_iff.mp H
      obtain ⟨t127, A140, H⟩ := H
      try dsimp only at H
      have A14 := Aside0.mk A140
      clear A140
      by_cases c15 : (((x3_1 ++ (⟨#[59]⟩ : ByteArray)) ++ t125) ++ (⟨#[58]⟩ : ByteArray)).size + t127.size ≤ 9223372036854775807
      rotate_left
      · rw [if_neg c15] at H
        exact absurd H (by simp)
      rw [if_pos c15] at H
      have c15b0 := eq_true c15
      have c15b1 := decide_eq_true c15
      try have c15b2 : (9223372036854775807 < (((x3_1 ++ (⟨#[59]⟩ : ByteArray)) ++ t125) ++ (⟨#[58]⟩ : ByteArray)).size + t127.size) = False := eq_false (Nat.not_lt.2 c15)
      have c15b3 : (9223372036854775807 < x3_1.size + 1 + t125.size + 1 + t127.size) = False := eq_false (Nat.not_lt.2 (by have z_ := c15; (repeat rw [ByteArray.size_append] at z_); exact z_))
      have H' := Aside0.mk H
      clear H
      try go_wp2
      replace HB := Aside0.mk (vB HB.out)
      have p124 : 0 ≤ (x4_1 : Int) := of_decide_eq_true uL
      have q124 : x4_1 < (l0.length : Int) := of_decide_eq_true uL
      obtain ⟨ad124, e124, hx124_0, hx124_1, hx124_2, hx124_3, hx124_4, hx124_5, hx124_6⟩ := at_T66 HR0.out x4_1 p124 q124
      have hw124_6 := hx124_6
      have hw124_5 := hx124_5
      have hw124_4 := hx124_4
      have hw124_3 := hx124_3
      have hw124_2 := hx124_2
      have hw124_1 := hx124_1
      have hw124_0 := hx124_0
      cases e124
      replace hx124_0 := (HB.out.cell (vJ w _ hx124_0)).trans hx124_0
      replace hx124_1 := (HB.out.cell (vJ w _ hx124_1)).trans hx124_1
      replace hx124_2 := (HB.out.cell (vJ w _ hx124_2)).trans hx124_2
      replace hx124_3 := (HB.out.cell (vJ w _ hx124_3)).trans hx124_3
      replace hx124_4 := (HB.out.cell (vJ w _ hx124_4)).trans hx124_4
      replace hx124_5 := (HB.out.cell (vJ w _ hx124_5)).trans hx124_5
      replace hx124_6 := (HB.out.cell (vJ w _ hx124_6)).trans hx124_6
      replace p124 := eq_true p124
      replace q124 := eq_true q124
      have p126 : 0 ≤ (x4_1 : Int) := of_decide_eq_true uL
      have q126 : x4_1 < (l0.length : Int) := of_decide_eq_true uL
      obtain ⟨ad126, e126, hx126_0, hx126_1, hx126_2, hx126_3, hx126_4, hx126_5, hx126_6⟩ := at_T66 HR0.out x4_1 p126 q126
      have hw126_6 := hx126_6
      have hw126_5 := hx126_5
      have hw126_4 := hx126_4
      have hw126_3 := hx126_3
      have hw126_2 := hx126_2
      have hw126_1 := hx126_1
      have hw126_0 := hx126_0
      obtain rfl : ad124 = ad126 := (by injection e126)
      replace hx126_0 := (HB.out.cell (vJ w _ hx126_0)).trans hx126_0
      replace hx126_1 := (HB.out.cell (vJ w _ hx126_1)).trans hx126_1
      replace hx126_2 := (HB.out.cell (vJ w _ hx126_2)).trans hx126_2
      replace hx126_3 := (HB.out.cell (vJ w _ hx126_3)).trans hx126_3
      replace hx126_4 := (HB.out.cell (vJ w _ hx126_4)).trans hx126_4
      replace hx126_5 := (HB.out.cell (vJ w _ hx126_5)).trans hx126_5
      replace hx126_6 := (HB.out.cell (vJ w _ hx126_6)).trans hx126_6
      replace p126 := eq_true p126
      replace q126 := eq_true q126
      refine start_ (n := 17) (S := fun w' => w'.cell? (ad124.add ((x4_1).toNat * 7)) = some (.int .i64 ((rd_T66 l0 x4_1).f0)) ∧ w'.cell? ⟨(ad124.add ((x4_1).toNat * 7)).block, (ad124.add ((x4_1).toNat * 7)).off + 1, none⟩ = some (.int .i64 ((rd_T66 l0 x4_1).f1.f0)) ∧ w'.cell? ⟨(ad124.add ((x4_1).toNat * 7)).block, (ad124.add ((x4_1).toNat * 7)).off + 2, none⟩ = some (.int .i64 ((rd_T66 l0 x4_1).f1.f1)) ∧ w'.cell? ⟨(ad124.add ((x4_1).toNat * 7)).block, (ad124.add ((x4_1).toNat * 7)).off + 3, none⟩ = some (.int .i64 ((rd_T66 l0 x4_1).f1.f2)) ∧ w'.cell? ⟨(ad124.add ((x4_1).toNat * 7)).block, (ad124.add ((x4_1).toNat * 7)).off + 4, none⟩ = some (.int .i64 ((rd_T66 l0 x4_1).f1.f3)) ∧ w'.cell? ⟨(ad124.add ((x4_1).toNat * 7)).block, (ad124.add ((x4_1).toNat * 7)).off + 5, none⟩ = some (.int .i64 ((rd_T66 l0 x4_1).f1.f4)) ∧ w'.cell? ⟨(ad124.add ((x4_1).toNat * 7)).block, (ad124.add ((x4_1).toNat * 7)).off + 6, none⟩ = some (.int .i64 ((rd_T66 l0 x4_1).f1.f5)) ∧ w'.cell? (ad124.add ((x4_1).toNat * 7)) = some (.int .i64 ((rd_T66 l0 x4_1).f0)) ∧ w'.cell? ⟨(ad124.add ((x4_1).toNat * 7)).block, (ad124.add ((x4_1).toNat * 7)).off + 1, none⟩ = some (.int .i64 ((rd_T66 l0 x4_1).f1.f0)) ∧ w'.cell? ⟨(ad124.add ((x4_1).toNat * 7)).block, (ad124.add ((x4_1).toNat * 7)).off + 2, none⟩ = some (.int .i64 ((rd_T66 l0 x4_1).f1.f1)) ∧ w'.cell? ⟨(ad124.add ((x4_1).toNat * 7)).block, (ad124.add ((x4_1).toNat * 7)).off + 3, none⟩ = some (.int .i64 ((rd_T66 l0 x4_1).f1.f2)) ∧ w'.cell? ⟨(ad124.add ((x4_1).toNat * 7)).block, (ad124.add ((x4_1).toNat * 7)).off + 4, none⟩ = some (.int .i64 ((rd_T66 l0 x4_1).f1.f3)) ∧ w'.cell? ⟨(ad124.add ((x4_1).toNat * 7)).block, (ad124.add ((x4_1).toNat * 7)).off + 5, none⟩ = some (.int .i64 ((rd_T66 l0 x4_1).f1.f4)) ∧ w'.cell? ⟨(ad124.add ((x4_1).toNat * 7)).block, (ad124.add ((x4_1).toNat * 7)).off + 6, none⟩ = some (.int .i64 ((rd_T66 l0 x4_1).f1.f5))) (ds := []) tb0 (by kernel_rfl) rfl rfl ⟨((HB.out.cell (vJ w _ hw124_0)).trans hw124_0), ((HB.out.cell (vJ w _ hw124_1)).trans hw124_1), ((HB.out.cell (vJ w _ hw124_2)).trans hw124_2), ((HB.out.cell (vJ w _ hw124_3)).trans hw124_3), ((HB.out.cell (vJ w _ hw124_4)).trans hw124_4), ((HB.out.cell (vJ w _ hw124_5)).trans hw124_5), ((HB.out.cell (vJ w _ hw124_6)).trans hw124_6), ((HB.out.cell (vJ w _ hw126_0)).trans hw126_0), ((HB.out.cell (vJ w _ hw126_1)).trans hw126_1), ((HB.out.cell (vJ w _ hw126_2)).trans hw126_2), ((HB.out.cell (vJ w _ hw126_3)).trans hw126_3), ((HB.out.cell (vJ w _ hw126_4)).trans hw126_4), ((HB.out.cell (vJ w _ hw126_5)).trans hw126_5), ((HB.out.cell (vJ w _ hw126_6)).trans hw126_6)⟩ (fun hHeld => ?_); refine with_tabW spec_FormatLog.tab11 spec_FormatLog.bits11 (fun HT_ HW_ => ?_)
      generalize wr.drew = w16 at HB hx124_0 hx124_1 hx124_2 hx124_3 hx124_4 hx124_5 hx124_6 hx126_0 hx126_1 hx126_2 hx126_3 hx126_4 hx126_5 hx126_6 hHeld ⊢
      refine uJ 0 (some 21) tb1 ?_
      refine uJ 1 (some 22) tb2 ?_
      refine uJ 2 (some 23) tb3 ?_
      refine uJ 3 (some 24) tb32 ?_
      refine uJ 4 (some 25) tb36 ?_
      refine uJ 9 (some 30) tb40 ?_
      refine uJ 10 (some 31) tb43 ?_
      refine uJ 11 (some 32) tb46 ?_
      refine uJ 12 (some 33) tb50 ?_
      refine takeT 5 (some 26) tb52 ?_
      refine takeT 13 (some 34) tb55 ?_
      refine oneT 6 (some 27) tb57 (fun K hK => ?_)
      refine goesT Tryd.func90 #[.int .i64 ((rd_T66 l0 x4_1).f0)] ?_
      with_reducible refine (spec_FormatInt.calls k1 ((rd_T66 l0 x4_1).f0) t125 _ A11.out).mono ?_
      rintro e w17 ⟨rfl, hb⟩
      refine ⟨_, rfl, ?_⟩
      replace HB := uR HB hb
      (try clear hb)
      refine hK.out _ _ ⟨((HB.out.cell (vJ w _ hw124_0)).trans hw124_0), ((HB.out.cell (vJ w _ hw124_1)).trans hw124_1), ((HB.out.cell (vJ w _ hw124_2)).trans hw124_2), ((HB.out.cell (vJ w _ hw124_3)).trans hw124_3), ((HB.out.cell (vJ w _ hw124_4)).trans hw124_4), ((HB.out.cell (vJ w _ hw124_5)).trans hw124_5), ((HB.out.cell (vJ w _ hw124_6)).trans hw124_6), ((HB.out.cell (vJ w _ hw126_0)).trans hw126_0), ((HB.out.cell (vJ w _ hw126_1)).trans hw126_1), ((HB.out.cell (vJ w _ hw126_2)).trans hw126_2), ((HB.out.cell (vJ w _ hw126_3)).trans hw126_3), ((HB.out.cell (vJ w _ hw126_4)).trans hw126_4), ((HB.out.cell (vJ w _ hw126_5)).trans hw126_5), ((HB.out.cell (vJ w _ hw126_6)).trans hw126_6)⟩ (fun hHeld => ?_)
      clear hK K
      refine uW ?_
      refine uJ 7 (some 28) tb59 ?_
      refine uJ 8 (some 29) tb4 ?_
      refine oneT 14 (some 35) tb5 (fun K hK => ?_)
      refine goesT Tryd.func91 #[.agg #[.int .i64 ((rd_T66 l0 x4_1).f1.f0), .int .i64 ((rd_T66 l0 x4_1).f1.f1), .int .i64 ((rd_T66 l0 x4_1).f1.f2), .int .i64 ((rd_T66 l0 x4_1).f1.f3), .int .i64 ((rd_T66 l0 x4_1).f1.f4), .int .i64 ((rd_T66 l0 x4_1).f1.f5)]] ?_
      with_reducible refine (spec_FormatOp.calls k1 ((rd_T66 l0 x4_1).f1.f0) ((rd_T66 l0 x4_1).f1.f1) ((rd_T66 l0 x4_1).f1.f2) ((rd_T66 l0 x4_1).f1.f3) ((rd_T66 l0 x4_1).f1.f4) ((rd_T66 l0 x4_1).f1.f5) t127 _ A14.out).mono ?_
      rintro e w18 ⟨rfl, hb⟩
      refine ⟨_, rfl, ?_⟩
      replace HB := uR HB hb
      (try clear hb)
      refine hK.out _ _ ⟨((HB.out.cell (vJ w _ hw124_0)).trans hw124_0), ((HB.out.cell (vJ w _ hw124_1)).trans hw124_1), ((HB.out.cell (vJ w _ hw124_2)).trans hw124_2), ((HB.out.cell (vJ w _ hw124_3)).trans hw124_3), ((HB.out.cell (vJ w _ hw124_4)).trans hw124_4), ((HB.out.cell (vJ w _ hw124_5)).trans hw124_5), ((HB.out.cell (vJ w _ hw124_6)).trans hw124_6), ((HB.out.cell (vJ w _ hw126_0)).trans hw126_0), ((HB.out.cell (vJ w _ hw126_1)).trans hw126_1), ((HB.out.cell (vJ w _ hw126_2)).trans hw126_2), ((HB.out.cell (vJ w _ hw126_3)).trans hw126_3), ((HB.out.cell (vJ w _ hw126_4)).trans hw126_4), ((HB.out.cell (vJ w _ hw126_5)).trans hw126_5), ((HB.out.cell (vJ w _ hw126_6)).trans hw126_6)⟩ (fun hHeld => ?_)
      clear hK K
      refine uW ?_
      refine uJ 15 (some 36) tb6 ?_
      refine uJ 16 (some 3) tb8 ?_
      refine done_ (done_of HT_.out (by kernel_rfl)) ?_
      try go_wp2
      go_roundg k1
      case measure => have := HK1.out; omega
      case rel => exact ⟨((((x3_1 ++ (⟨#[59]⟩ : ByteArray)) ++ t125) ++ (⟨#[58]⟩ : ByteArray)) ++ t127), (wrap64 (x4_1 + 1)), cq6, cq6, H', ⟨by have := HK1.out; omega⟩, ⟨cq1⟩⟩

/-! ### spec_l2Cut: function 66 -/
def spec_l2Cut.l0 : Nat → ByteArray → Int → List ByteArray → Int → Int → Option (List ByteArray)
  | 0, _, _, _, _, _ => none
  | k + 1, x0, x1, x5, x6, x7 => if x7 < (x0.size : Int) then (if 0 ≤ x7 then (if (bt x0 x7) = x1 then (if 0 ≤ x6 then (if x6 ≤ x7 then (if x7 ≤ (x0.size : Int) then (if x5.length < 8796093022208 then (spec_l2Cut.l0 k x0 x1 (x5 ++ [x0.extract (x6 : Int).toNat (x7 : Int).toNat]) (wrap64 (x7 + 1)) (wrap64 (x7 + 1))) else (none)) else (none)) else (none)) else (none)) else (spec_l2Cut.l0 k x0 x1 x5 x6 (wrap64 (x7 + 1)))) else (none)) else (if 0 ≤ x6 then (if x6 ≤ (x0.size : Int) then (if x5.length < 8796093022208 then (some (x5 ++ [x0.extract (x6 : Int).toNat x0.size])) else (none)) else (none)) else (none))
def spec_l2Cut.f (k : Nat) (a0 : ByteArray) (a1 : Int) : Option (List ByteArray) := spec_l2Cut.l0 k a0 a1 (([] : List ByteArray)) 0 0
theorem spec_l2Cut.mono_l : ∀ k, (∀ y0 y1 y2 y3 y4, uE (spec_l2Cut.l0 k y0 y1 y2 y3 y4) (spec_l2Cut.l0 (k + 1) y0 y1 y2 y3 y4))
  | 0 => fun _ _ _ _ _ r h => by simp [spec_l2Cut.l0] at h
  | k + 1 => by
    have ih0 := spec_l2Cut.mono_l k
    intro y0 y1 y2 y3 y4
    unfold spec_l2Cut.l0
    repeat' first
    | (with_reducible exact ih0 _ _ _ _ _)
    | (with_reducible exact uE.refl _)
    | (with_reducible exact uE.none _)
    | (with_reducible refine uE.ite ?_ ?_)
    | (with_reducible refine uE.bind ?_ (fun _ => ?_))
    | exact ih0 _ _ _ _ _
    | exact uE.none _
    | refine uE.ite ?_ ?_
    | refine uE.bind ?_ (fun _ => ?_)
theorem spec_l2Cut.mono : ∀ a0 a1 k, uE (spec_l2Cut.f k a0 a1) (spec_l2Cut.f (k + 1) a0 a1) := by
  intro a0 a1 k
  have ih0 := spec_l2Cut.mono_l k
  unfold spec_l2Cut.f
  repeat' first
      | (with_reducible exact ih0 _ _ _ _ _)
      | (with_reducible exact uE.refl _)
      | (with_reducible exact uE.none _)
      | (with_reducible refine uE.ite ?_ ?_)
      | (with_reducible refine uE.bind ?_ (fun _ => ?_))
      | exact ih0 _ _ _ _ _
      | exact uE.none _
      | refine uE.ite ?_ ?_
      | refine uE.bind ?_ (fun _ => ?_)
set_option maxHeartbeats 8000000 in
set_option maxRecDepth 100000 in
theorem spec_l2Cut.calls (k : Nat) (a0 : ByteArray) (a1 : Int) (r : List ByteArray) (w : World) (h : spec_l2Cut.f k a0 a1 = some r) :
    Calls Tryd.prog 66 #[.string a0, .int .u8 a1] w fun e w' => ∃ v0_ : Value, e = .returned (v0_) ∧ Kd.R Kd.string 9 w' w.heap.size (fun _ => True) v0_ r ∧ Below w.heap.size w w' := by
  have HB := Aside0.mk (Below.refl w.heap.size w)
  have H : (spec_l2Cut.l0 k a0 a1 (([] : List ByteArray)) 0 0) = some r := h
  clear h
  obtain ⟨y132, hy132⟩ : ∃ y_ : List ByteArray, y_ = (([] : List ByteArray)) := ⟨_, rfl⟩
  replace H : (spec_l2Cut.l0 k a0 a1 y132 0 0) = some r := rpl hy132 H
  have Ny132 := Aside0.mk hy132
  clear hy132
  have H' := Aside0.mk H
  clear H
  go_enter Tryd.func66, Tryd.ntmps66
  go_wp2_with (first | ((with_reducible refine gate_dst (N := 8) rfl ?_); refine Kd.R_lit Kd.string _ 9 ?hg (N := 8) ?hd (xs := ([] : List ByteArray)) (inner := []) (ok := fun _ => True) (okp := fun _ => True) ?hr ?hp (fun _ hk => hk) trivial (Below.refl _ _) (Nat.le_refl _) (by simp) ?_; (case hd => rfl); (case hg => rfl); (case hr => first | (go_simp; done) | (go_simp; rfl)); (case hp => exact (Reps.none _ _)); intro v133 w3 ho4 hb hg_ hnew_; clear hg_ hnew_; (first | rw [← Ny132.out] at ho4 | (simp only [Int.reduceToNat] at ho4; rw [← Ny132.out] at ho4)); have HO134 := Aside0.mk (Kd.R_lower ho4 (vA cq1)); replace HB := uR HB hb; clear hb ho4))
  go_loopg [5, 6, 7] k (fun kq v5 v6 v7 w' => ∃ (x5_1 : List ByteArray) (x6_1 : Int) (x7_1 : Int), v6 = .int .i64 x6_1 ∧ v7 = .int .i64 x7_1 ∧ Aside0 (spec_l2Cut.l0 kq a0 a1 x5_1 x6_1 x7_1 = some r) ∧ Aside0 (kq ≤ k) ∧ Aside0 (Kd.R Kd.string 9 w' w.heap.size (fun _ => True) v5 x5_1) ∧ Aside0 (Below w.heap.size w w'))
  case atStart => exact ⟨(y132), (0), (0), cq6, cq6, H', ⟨Nat.le_refl _⟩, ⟨by (with_reducible repeat (first | apply Kd.uV | apply Kd.uU | apply Kd.uT)); exact HO134.out⟩, ⟨cq1⟩⟩
  case round =>
    clear H'
    obtain ⟨x5_1, x6_1, x7_1, rfl, rfl, HA, HK1, HO_5, HB⟩ := hrel
    cases gk with
    | zero => exact absurd HA.out (by simp [spec_l2Cut.l0])
    | succ k1 =>
      have H := HA.out
      clear HA
      simp only [spec_l2Cut.l0] at H
      by_cases c5 : x7_1 < (a0.size : Int)
      rotate_left
      · rw [if_neg c5] at H
        have c5b0 := decide_eq_false c5
        clear c5
        by_cases c14 : 0 ≤ x6_1
        rotate_left
        · rw [if_neg c14] at H
          exact absurd H (by simp)
        rw [if_pos c14] at H
        have c14b0 := eq_true c14
        have c14b1 := decide_eq_true c14
        clear c14
        by_cases c15 : x6_1 ≤ (a0.size : Int)
        rotate_left
        · rw [if_neg c15] at H
          exact absurd H (by simp)
        rw [if_pos c15] at H
        have c15b0 := eq_true c15
        have c15b1 := decide_eq_true c15
        clear c15
        obtain ⟨LMc16, H⟩ := ifL H
        obtain ⟨y138, hy138⟩ : ∃ y_ : List ByteArray, y_ = (x5_1 ++ [a0.extract (x6_1 : Int).toNat a0.size]) := ⟨_, rfl⟩
        replace H : (some y138) = some r := rpl hy138 H
        have Ny138 := Aside0.mk hy138
        clear hy138
        obtain rfl := Option.some.inj H
        go_wp2_with (first | ((with_reducible refine gate_builtin (b := .append) (xs := #[.tmp 29, .tmp 33]) rfl ?_); at_builtin; refine Kd.R_append Kd.string (w0 := w) w.heap.size rfl (.tmp 29) (.tmp 33) 37 9 (.string ⟨#[]⟩) 16 rfl Tryd.underlying37 info9 rfl (by decide) (by omega) u5 x5_1 (a0.extract (x6_1 : Int).toNat a0.size) [.string (a0.extract (x6_1 : Int).toNat a0.size)] (fun _ => True) (fun _ => False) rfl rfl ?aP (fun _ hk => hk.elim) ?aF ?aO ?aB ?aS ?aL ?_; (case aP => exact rfl); (case aB => exact cq1); (case aF => exact (fun _ _ => trivial)); (case aO => exact (rSR HO_5.out)); (case aS => exact (vA cq1)); (case aL => have := LMc16.out; omega); intro v139 w17 ho hb hg hat; rw [← Ny138.out] at ho; have n0_ := Aside0.mk (hb); have n1_ := Aside0.mk (ho); clear HB; clear HO_5; have HB := n0_; have HO140 := n1_; clear n0_ n1_; clear ho hb hg hat))
        go_ret
        exact ⟨_, cq3, by (with_reducible repeat (first | apply Kd.uV | apply Kd.uU | apply Kd.uT)); exact HO140.out, cq1⟩
      rw [if_pos c5] at H
      have c5b0 := decide_eq_true c5
      clear c5
      obtain ⟨c6b0, H⟩ := ifD H
      by_cases c8 : (bt a0 x7_1) = a1
      rotate_left
      · rw [if_neg c8] at H
        have c8b0 := beq_eq_false_iff_ne.mpr c8
        have c8b1 := bne_iff_ne.mpr c8
        have H' := Aside0.mk H
        clear H
        have p7 : 0 ≤ (x7_1 : Int) := of_decide_eq_true uL
        have q7 : x7_1 < (a0.size : Int) := of_decide_eq_true uL
        have hx7 := bt_at a0 x7_1
        replace p7 := eq_true p7
        replace q7 := eq_true q7
        go_wp2
        go_roundg k1
        case measure => have := HK1.out; omega
        case rel => exact ⟨(x5_1), (x6_1), (wrap64 (x7_1 + 1)), cq6, cq6, H', ⟨by have := HK1.out; omega⟩, ⟨cq53⟩, ⟨cq1⟩⟩
      rw [if_pos c8] at H
      have c8b0 := beq_iff_eq.mpr c8
      have c8b1 := bne_eq_false_iff_eq.mpr c8
      clear c8
      by_cases c9 : 0 ≤ x6_1
      rotate_left
      · rw [if_neg c9] at H
        exact absurd H (by simp)
      rw [if_pos c9] at H
      have c9b0 := eq_true c9
      have c9b1 := decide_eq_true c9
      clear c9
      by_cases c10 : x6_1 ≤ x7_1
      rotate_left
      · rw [if_neg c10] at H
        exact absurd H (by simp)
      rw [if_pos c10] at H
      have c10b0 := eq_true c10
      have c10b1 := decide_eq_true c10
      clear c10
      by_cases c11 : x7_1 ≤ (a0.size : Int)
      rotate_left
      · rw [if_neg c11] at H
        exact absurd H (by simp)
      rw [if_pos c11] at H
      have c11b0 := eq_true c11
      have c11b1 := decide_eq_true c11
      clear c11
      obtain ⟨LMc12, H⟩ := ifL H
      obtain ⟨y135, hy135⟩ : ∃ y_ : List ByteArray, y_ = (x5_1 ++ [a0.extract (x6_1 : Int).toNat (x7_1 : Int).toNat]) := ⟨_, rfl⟩
      replace H : (spec_l2Cut.l0 k1 a0 a1 y135 (wrap64 (x7_1 + 1)) (wrap64 (x7_1 + 1))) = some r := rpl hy135 H
      have Ny135 := Aside0.mk hy135
      clear hy135
      have H' := Aside0.mk H
      clear H
      have p7 : 0 ≤ (x7_1 : Int) := of_decide_eq_true uL
      have q7 : x7_1 < (a0.size : Int) := of_decide_eq_true uL
      have hx7 := bt_at a0 x7_1
      replace p7 := eq_true p7
      replace q7 := eq_true q7
      go_wp2_with (first | ((with_reducible refine gate_builtin (b := .append) (xs := #[.tmp 20, .tmp 25]) rfl ?_); at_builtin; refine Kd.R_append Kd.string (w0 := w) w.heap.size rfl (.tmp 20) (.tmp 25) 37 9 (.string ⟨#[]⟩) 16 rfl Tryd.underlying37 info9 rfl (by decide) (by omega) u5 x5_1 (a0.extract (x6_1 : Int).toNat (x7_1 : Int).toNat) [.string (a0.extract (x6_1 : Int).toNat (x7_1 : Int).toNat)] (fun _ => True) (fun _ => False) rfl rfl ?aP (fun _ hk => hk.elim) ?aF ?aO ?aB ?aS ?aL ?_; (case aP => exact rfl); (case aB => exact cq1); (case aF => exact (fun _ _ => trivial)); (case aO => exact (rSR HO_5.out)); (case aS => exact (vA cq1)); (case aL => have := LMc12.out; omega); intro v136 w13 ho hb hg hat; rw [← Ny135.out] at ho; have n0_ := Aside0.mk (hb); have n1_ := Aside0.mk (ho); clear HB; clear HO_5; have HB := n0_; have HO137 := n1_; clear n0_ n1_; clear ho hb hg hat))
      go_roundg k1
      case measure => have := HK1.out; omega
      case rel => exact ⟨(y135), (wrap64 (x7_1 + 1)), (wrap64 (x7_1 + 1)), cq6, cq6, H', ⟨by have := HK1.out; omega⟩, ⟨by (with_reducible repeat (first | apply Kd.uV | apply Kd.uU | apply Kd.uT)); exact HO137.out⟩, ⟨cq1⟩⟩

end Go.Proofs.YtcikahnmiiichaaDoor.L
