/- Go functions as Lean functions, and the proof that the code comes to them: written by a program of this session out of the translation. -/
import Derived.Test.YtcikahnmiiichaaDoorG0
import Derived.Test.YtcikahnmiiichaaDoorG4
import Derived.Test.YtcikahnmiiichaaDoorG5
namespace Go.Proofs.YtcikahnmiiichaaDoor.G
open List renaming setIfInBounds_toArray → uY, set_cons_zero → uZ, set_cons_succ → vA
open Go.World renaming block_lt_of_cell? → vE
open Go.Proofs.YtcikahnmiiichaaDoor.Given
open Go.RowKit Go.Proofs.YtcikahnmiiichaaDoorW.PrintWords Go.Proofs.YtcikahnmiiichaaDoorW.PrintLast Go.Proofs.YtcikahnmiiichaaDoorW.PrintMore
attribute [local go_sem] max2_int min2_int max_two min_two max_three min_three max_four min_four   -- for this text's walks alone
set_option linter.unusedVariables false
set_option linter.unusedSimpArgs false

/-! ### impl_FormatLog: function 45 -/
def impl_FormatLog.l0 : Nat → List ByteArray → List (S66) → Int → Int → Option (ByteArray)
  | 0, _, _, _, _ => none
  | k + 1, x3, x15, x16, x17 => if x17 < x16 then (if 0 ≤ x17 then (if x17 < (x15.length : Int) then ((impl_FormatInt.f ((rd_T66 x15 x17).f0)).bind fun t341 => (if t341.size + 1 ≤ 9223372036854775807 then ((impl_FormatOp.f ((rd_T66 x15 x17).f1.f0) ((rd_T66 x15 x17).f1.f1) ((rd_T66 x15 x17).f1.f2) ((rd_T66 x15 x17).f1.f3) ((rd_T66 x15 x17).f1.f4) ((rd_T66 x15 x17).f1.f5)).bind fun t342 => (if (t341 ++ (⟨#[58]⟩ : ByteArray)).size + t342.size ≤ 9223372036854775807 then (if x3.length < 8796093022208 then (impl_FormatLog.l0 k (x3 ++ [(t341 ++ (⟨#[58]⟩ : ByteArray)) ++ t342]) x15 x16 (wrap64 (x17 + 1))) else (none)) else (none))) else (none))) else (none)) else (none)) else ((strings_Join.f x3 (⟨#[59]⟩ : ByteArray)).bind fun t346 => (some t346))
def impl_FormatLog.f (k : Nat) (l0 : List (S66)) : Option (ByteArray) := (impl_IsLog.f k l0).bind fun t335 => (if t335 = true then (if (l0.length : Int) = 0 then (some (⟨#[110, 111, 110, 101]⟩ : ByteArray)) else (impl_FormatLog.l0 k (([] : List ByteArray)) l0 (l0.length : Int) 0)) else (some (⟨#[]⟩ : ByteArray)))
theorem impl_FormatLog.mono_l : ∀ k, (∀ y0 y1 y2 y3, uF (impl_FormatLog.l0 k y0 y1 y2 y3) (impl_FormatLog.l0 (k + 1) y0 y1 y2 y3))
  | 0 => fun _ _ _ _ r h => by simp [impl_FormatLog.l0] at h
  | k + 1 => by
    have ih0 := impl_FormatLog.mono_l k
    intro y0 y1 y2 y3
    unfold impl_FormatLog.l0
    repeat' first
    | (with_reducible exact ih0 _ _ _ _)
    | (with_reducible exact impl_IsLog.mono _ _)
    | (with_reducible exact uF.refl _)
    | (with_reducible exact uF.none _)
    | (with_reducible refine uF.ite ?_ ?_)
    | (with_reducible refine uF.bind ?_ (fun _ => ?_))
    | exact ih0 _ _ _ _
    | exact impl_IsLog.mono _ _
    | exact uF.none _
    | refine uF.ite ?_ ?_
    | refine uF.bind ?_ (fun _ => ?_)
theorem impl_FormatLog.mono : ∀ a0 k, uF (impl_FormatLog.f k a0) (impl_FormatLog.f (k + 1) a0) := by
  intro a0 k
  have ih0 := impl_FormatLog.mono_l k
  unfold impl_FormatLog.f
  repeat' first
      | (with_reducible exact ih0 _ _ _ _)
      | (with_reducible exact impl_IsLog.mono _ _)
      | (with_reducible exact uF.refl _)
      | (with_reducible exact uF.none _)
      | (with_reducible refine uF.ite ?_ ?_)
      | (with_reducible refine uF.bind ?_ (fun _ => ?_))
      | exact ih0 _ _ _ _
      | exact impl_IsLog.mono _ _
      | exact uF.none _
      | refine uF.ite ?_ ?_
      | refine uF.bind ?_ (fun _ => ?_)
def impl_FormatLog.T9 : Bool × List (List Nat × List Nat) := (true, [([], []), ([], []), ([1], [1]), ([2], [2]), ([3], [3]), ([], []), ([5], [5]), ([6, 3], [6]), ([4, 7], [4, 7]), ([8], [8]), ([0, 9, 7], [0, 9]), ([10, 10, 0, 1, 2, 3, 4, 5, 6, 7, 8, 9, 10], [0, 10])])
def impl_FormatLog.B9 : List Nat := [0, 0, 2, 6, 14, 0, 32, 110, 254, 510, 1023, 2047]
theorem impl_FormatLog.tab9 : rtab .any (opsOf Tryd.f45 9) = impl_FormatLog.T9 := by kernel_rfl
theorem impl_FormatLog.bits9 : waitsOk impl_FormatLog.T9.2 impl_FormatLog.B9 = true := by kernel_rfl
set_option maxHeartbeats 8000000 in
set_option maxRecDepth 100000 in
theorem impl_FormatLog.calls (k : Nat) (A0 : Option Addr) (c0 : Nat) (l0 : List (S66)) (r : ByteArray) (w : World) (hr0 : Kd.C k66 w A0 l0.length l0) (hc0 : l0.length ≤ c0) (hWF : WF w) (h : impl_FormatLog.f k l0 = some r) :
    Calls Tryd.prog 45 #[.slice A0 l0.length c0] w fun e w' => e = .returned (.string r) ∧ Below w.heap.size w w' := by
  have hu66 := Tryd.underlying66
  have hu64 := Tryd.underlying64
  have HR0 := Aside0.mk hr0
  have HC0 := Aside0.mk hc0
  clear hr0 hc0
  have HB := Aside0.mk (Below.refl w.heap.size w)
  have H : ((impl_IsLog.f k l0).bind fun t335 => (if t335 = true then (if (l0.length : Int) = 0 then (some (⟨#[110, 111, 110, 101]⟩ : ByteArray)) else (impl_FormatLog.l0 k (([] : List ByteArray)) l0 (l0.length : Int) 0)) else (some (⟨#[]⟩ : ByteArray)))) = some r := h
  clear h
  replace H := Option.bind_eq_some_iff.mp H
  obtain ⟨t335, A20, H⟩ := H
  try dsimp only at H
  have A2 := Aside0.mk A20
  clear A20
  by_cases c3 : t335 = true
  rotate_left
  · replace c3 := Bool.eq_false_iff.mpr c3
    subst c3
    try rw [if_neg (show ¬ (false = true) by decide)] at H
    obtain rfl := Option.some.inj H
    go_enter Tryd.func45, Tryd.ntmps45
    go_wp2_with (first | ((with_reducible refine uE (f := 43) rfl ?_); refine uL (some 8) Tryd.func43 #[.slice A0 l0.length c0] ?_; (with_reducible refine (impl_IsLog.calls k _ _ l0 false _ ?side1 ?side2 A2.out).mono ?_); (case side1 => exact q14); (case side2 => exact HC0.out); rintro e w27 ⟨rfl, hb⟩; refine ⟨_, rfl, ?_⟩; replace HB := uQ HB hb; (try clear hb); (try clear hb2); (try clear hk); (try clear hi)))
    go_ret
    exact ⟨q2, q0⟩
  subst c3
  try rw [if_pos rfl] at H
  by_cases c4 : (l0.length : Int) = 0
  · rw [if_pos c4] at H
    have c4b0 : ((l0.length : Int) == 0) = true := beq_iff_eq.mpr c4
    have c4b1 : ((l0.length : Int) != 0) = false := bne_eq_false_iff_eq.mpr c4
    clear c4
    obtain rfl := Option.some.inj H
    go_enter Tryd.func45, Tryd.ntmps45
    go_wp2_with (first | ((with_reducible refine uE (f := 43) rfl ?_); refine uL (some 8) Tryd.func43 #[.slice A0 l0.length c0] ?_; (with_reducible refine (impl_IsLog.calls k _ _ l0 true _ ?side1 ?side2 A2.out).mono ?_); (case side1 => exact q14); (case side2 => exact HC0.out); rintro e w5 ⟨rfl, hb⟩; refine ⟨_, rfl, ?_⟩; replace HB := uQ HB hb; (try clear hb); (try clear hb2); (try clear hk); (try clear hi)))
    go_ret
    exact ⟨q2, q0⟩
  rw [if_neg c4] at H
  have c4b0 : ((l0.length : Int) == 0) = false := beq_eq_false_iff_ne.mpr c4
  have c4b1 : ((l0.length : Int) != 0) = true := bne_iff_ne.mpr c4
  have c4b2 : ¬ (l0 = []) := fun h_ => c4 (by rw [h_]; rfl)
  obtain ⟨y336, hy336⟩ : ∃ y_ : List ByteArray, y_ = (([] : List ByteArray)) := ⟨_, rfl⟩
  replace H : (impl_FormatLog.l0 k y336 l0 (l0.length : Int) 0) = some r := by first | (rw [hy336]; with_reducible exact H) | (have H2_ := (Option.bind_some _ _).symm.trans H; rw [hy336]; with_reducible exact H2_) | (have H2_ := (Option.bind_some _ _).symm.trans H; with_reducible exact H2_) | with_reducible exact H | (rw [hy336]; exact H) | exact H | rfl
  have Ny336 := Aside0.mk hy336
  clear hy336
  have H' := Aside0.mk H
  clear H
  go_enter Tryd.func45, Tryd.ntmps45
  go_wp2_with (first | ((with_reducible refine uE (f := 43) rfl ?_); refine uL (some 8) Tryd.func43 #[.slice A0 l0.length c0] ?_; (with_reducible refine (impl_IsLog.calls k _ _ l0 true _ ?side1 ?side2 A2.out).mono ?_); (case side1 => exact q14); (case side2 => exact HC0.out); rintro e w6 ⟨rfl, hb⟩; refine ⟨_, rfl, ?_⟩; replace HB := uQ HB hb; (try clear hb); (try clear hb2); (try clear hk); (try clear hi)) | ((with_reducible refine uR (N := 14) rfl ?_); refine Kd.R_lit Kd.string _ 9 ?hg (N := 14) ?hd (xs := ([] : List ByteArray)) (inner := []) (ok := fun _ => True) (okp := fun _ => True) ?hr ?hp (fun _ hk => hk) trivial (Below.refl _ _) (Nat.le_refl _) (by simp) ?_; (case hd => rfl); (case hg => rfl); (case hr => first | (go_simp; done) | (go_simp; rfl)); (case hp => exact (Reps.none _ _)); intro v337 w7 ho8 hb hg_ hnew_; clear hg_ hnew_; (first | rw [← Ny336.out] at ho8 | (simp only [Int.reduceToNat] at ho8; rw [← Ny336.out] at ho8)); have HO338 := Aside0.mk (Kd.uX ho8 (uU q0)); replace HB := uQ HB hb; clear hb ho8))
  go_loopg [3, 17] k (fun kq v3 v17 w' => ∃ (x3_1 : List ByteArray) (x17_1 : Int), v17 = .int .i64 x17_1 ∧ Aside0 (impl_FormatLog.l0 kq x3_1 l0 (l0.length : Int) x17_1 = some r) ∧ Aside0 (kq ≤ k) ∧ Aside0 (Kd.R Kd.string 9 w' w.heap.size (fun _ => True) v3 x3_1) ∧ Aside0 (Below w.heap.size w w'))
  case atStart => exact ⟨(y336), (0), q10, H', ⟨Nat.le_refl _⟩, ⟨by (with_reducible repeat (first | apply Kd.uT | apply Kd.uS | apply Kd.uW)); exact HO338.out⟩, ⟨q0⟩⟩
  case round =>
    clear H'
    try clear p2
    try clear c3
    try clear c4
    try clear c4b0
    try clear c4b1
    try clear c4b2
    obtain ⟨x3_1, x17_1, rfl, HA, HK1, HO_3, HB⟩ := hrel
    cases gk with
    | zero => exact absurd HA.out (by simp [impl_FormatLog.l0])
    | succ k1 =>
      have H := HA.out
      clear HA
      simp only [impl_FormatLog.l0] at H
      by_cases c9 : x17_1 < (l0.length : Int)
      rotate_left
      · rw [if_neg c9] at H
        have c9b0 : decide (x17_1 < (l0.length : Int)) = false := decide_eq_false c9
        clear c9
        replace H := Option.bind_eq_some_iff.mp H
        obtain ⟨t346, A240, H⟩ := H
        try dsimp only at H
        have A24 := Aside0.mk A240
        clear A240
        obtain rfl := Option.some.inj H
        obtain ⟨Ao25, co25, eo25⟩ := Kd.R_slice HO_3.out
        subst eo25
        go_wp2_with (first | ((with_reducible refine uE (f := 89) rfl ?_); refine uL (some 34) Tryd.func89 #[.slice Ao25 x3_1.length co25, .string (⟨#[59]⟩ : ByteArray)] ?_; (with_reducible refine (strings_Join.calls _ _ x3_1 (⟨#[59]⟩ : ByteArray) t346 _ ?side1 ?side2 A24.out).mono ?_); (case side1 => exact q37); (case side2 => exact (Kd.uM HO_3.out).2.1); rintro e w26 ⟨rfl, hb⟩; refine ⟨_, rfl, ?_⟩; replace HO_3 := Kd.tR HO_3 hb; replace HB := uQ HB hb; (try clear hb); (try clear hb2); (try clear hk); (try clear hi)))
        go_ret
        exact ⟨q2, q0⟩
      rw [if_pos c9] at H
      have c9b0 : decide (x17_1 < (l0.length : Int)) = true := decide_eq_true c9
      clear c9
      by_cases c10 : 0 ≤ x17_1
      rotate_left
      · rw [if_neg c10] at H
        exact absurd H (by simp)
      rw [if_pos c10] at H
      have c10b0 : decide (0 ≤ x17_1) = true := decide_eq_true c10
      clear c10
      by_cases c11 : x17_1 < (l0.length : Int)
      rotate_left
      · rw [if_neg c11] at H
        exact absurd H (by simp)
      rw [if_pos c11] at H
      have c11b0 : decide (x17_1 < (l0.length : Int)) = true := decide_eq_true c11
      clear c11
      replace H := Option.bind_eq_some_iff.mp H
      obtain ⟨t341, A120, H⟩ := H
      try dsimp only at H
      have A12 := Aside0.mk A120
      clear A120
      by_cases c13 : t341.size + 1 ≤ 9223372036854775807
      rotate_left
      · rw [if_neg c13] at H
        exact absurd H (by simp)
      rw [if_pos c13] at H
      have c13b0 := eq_true c13
      have c13b1 : decide (t341.size + 1 ≤ 9223372036854775807) = true := decide_eq_true c13
      try have c13b2 : (9223372036854775807 < t341.size + 1) = False := eq_false (Nat.not_lt.2 c13)
      replace H := Option.bind_eq_some_iff.mp H
      obtain ⟨t342, A140, H⟩ := H
      try dsimp only at H
      have A14 := Aside0.mk A140
      clear A140
      by_cases c15 : (t341 ++ (⟨#[58]⟩ : ByteArray)).size + t342.size ≤ 9223372036854775807
      rotate_left
      · rw [if_neg c15] at H
        exact absurd H (by simp)
      rw [if_pos c15] at H
      have c15b0 := eq_true c15
      have c15b1 : decide ((t341 ++ (⟨#[58]⟩ : ByteArray)).size + t342.size ≤ 9223372036854775807) = true := decide_eq_true c15
      try have c15b2 : (9223372036854775807 < (t341 ++ (⟨#[58]⟩ : ByteArray)).size + t342.size) = False := eq_false (Nat.not_lt.2 c15)
      have c15b3 : (9223372036854775807 < t341.size + 1 + t342.size) = False := eq_false (Nat.not_lt.2 (by have z_ := c15; (repeat rw [ByteArray.size_append] at z_); exact z_))
      by_cases c16 : x3_1.length < 8796093022208
      rotate_left
      · rw [if_neg c16] at H
        exact absurd H (by simp)
      rw [if_pos c16] at H
      have LMc16 := Aside0.mk c16
      clear c16
      obtain ⟨y343, hy343⟩ : ∃ y_ : List ByteArray, y_ = (x3_1 ++ [(t341 ++ (⟨#[58]⟩ : ByteArray)) ++ t342]) := ⟨_, rfl⟩
      replace H : (impl_FormatLog.l0 k1 y343 l0 (l0.length : Int) (wrap64 (x17_1 + 1))) = some r := by first | (rw [hy343]; with_reducible exact H) | (have H2_ := (Option.bind_some _ _).symm.trans H; rw [hy343]; with_reducible exact H2_) | (have H2_ := (Option.bind_some _ _).symm.trans H; with_reducible exact H2_) | with_reducible exact H | (rw [hy343]; exact H) | exact H | rfl
      have Ny343 := Aside0.mk hy343
      clear hy343
      have H' := Aside0.mk H
      clear H
      have p339 : 0 ≤ (x17_1 : Int) := of_decide_eq_true q9
      have q339 : x17_1 < (l0.length : Int) := of_decide_eq_true q9
      obtain ⟨ad339, e339, hx339_0, hx339_1, hx339_2, hx339_3, hx339_4, hx339_5, hx339_6⟩ := at_T66 HR0.out x17_1 p339 q339
      cases e339
      replace hx339_0 := (HB.out.cell (vE w _ hx339_0)).trans hx339_0
      replace hx339_1 := (HB.out.cell (vE w _ hx339_1)).trans hx339_1
      replace hx339_2 := (HB.out.cell (vE w _ hx339_2)).trans hx339_2
      replace hx339_3 := (HB.out.cell (vE w _ hx339_3)).trans hx339_3
      replace hx339_4 := (HB.out.cell (vE w _ hx339_4)).trans hx339_4
      replace hx339_5 := (HB.out.cell (vE w _ hx339_5)).trans hx339_5
      replace hx339_6 := (HB.out.cell (vE w _ hx339_6)).trans hx339_6
      replace p339 := eq_true p339
      replace q339 := eq_true q339
      try go_wp2_with (first | ((with_reducible refine uR (N := 5) rfl ?_); refine bxe 5 #[.int .i64 0, .int .i64 0, .int .i64 0, .int .i64 0, .int .i64 0, .int .i64 0, .int .i64 0] 66 ?_; intro gb340 hg w17 hbox hb; have BK340 := Aside0.mk (hbox); have GW340 := tGe HB hg; have GE340 := tGe HB hg; replace HO_3 := Kd.tR HO_3 hb; replace HB := uQ HB hb; clear hb hbox hg; obtain ⟨hcz18_0, hcz18_1, hcz18_2, hcz18_3, hcz18_4, hcz18_5, hcz18_6, hfz18_0, hfz18_1, hfz18_2, hfz18_3, hfz18_4, hfz18_5, hfz18_6⟩ := cz7 BK340))
      have n0_ : Aside0 (Kd.R Kd.string 9 (((((((w17.setCell ⟨gb340, 0, none⟩ (.int .i64 ((rd_T66 l0 x17_1).f0))).setCell ⟨gb340, 1, none⟩ (.int .i64 ((rd_T66 l0 x17_1).f1.f0))).setCell ⟨gb340, 2, none⟩ (.int .i64 ((rd_T66 l0 x17_1).f1.f1))).setCell ⟨gb340, 3, none⟩ (.int .i64 ((rd_T66 l0 x17_1).f1.f2))).setCell ⟨gb340, 4, none⟩ (.int .i64 ((rd_T66 l0 x17_1).f1.f3))).setCell ⟨gb340, 5, none⟩ (.int .i64 ((rd_T66 l0 x17_1).f1.f4))).setCell ⟨gb340, 6, none⟩ (.int .i64 ((rd_T66 l0 x17_1).f1.f5))) w.heap.size (fun _ => True) u3 x3_1) := ⟨by (with_reducible repeat (first | apply Kd.uT | apply Kd.uS | apply Kd.uW)); exact Kd.uV (Kd.R_far (p := ⟨gb340, 6, none⟩) (Kd.R_far (p := ⟨gb340, 5, none⟩) (Kd.R_far (p := ⟨gb340, 4, none⟩) (Kd.R_far (p := ⟨gb340, 3, none⟩) (Kd.R_far (p := ⟨gb340, 2, none⟩) (Kd.R_far (p := ⟨gb340, 1, none⟩) (Kd.R_far (p := ⟨gb340, 0, none⟩) (Kd.R_types HO_3.out BK340.out (by decide)) (fun _ hk => hk.2) (.int .i64 ((rd_T66 l0 x17_1).f0))) (fun _ hk => hk.2) (.int .i64 ((rd_T66 l0 x17_1).f1.f0))) (fun _ hk => hk.2) (.int .i64 ((rd_T66 l0 x17_1).f1.f1))) (fun _ hk => hk.2) (.int .i64 ((rd_T66 l0 x17_1).f1.f2))) (fun _ hk => hk.2) (.int .i64 ((rd_T66 l0 x17_1).f1.f3))) (fun _ hk => hk.2) (.int .i64 ((rd_T66 l0 x17_1).f1.f4))) (fun _ hk => hk.2) (.int .i64 ((rd_T66 l0 x17_1).f1.f5))) (fun _ hk => trivial)⟩
      have n1_ : Aside0 ((((((((w17.setCell ⟨gb340, 0, none⟩ (.int .i64 ((rd_T66 l0 x17_1).f0))).setCell ⟨gb340, 1, none⟩ (.int .i64 ((rd_T66 l0 x17_1).f1.f0))).setCell ⟨gb340, 2, none⟩ (.int .i64 ((rd_T66 l0 x17_1).f1.f1))).setCell ⟨gb340, 3, none⟩ (.int .i64 ((rd_T66 l0 x17_1).f1.f2))).setCell ⟨gb340, 4, none⟩ (.int .i64 ((rd_T66 l0 x17_1).f1.f3))).setCell ⟨gb340, 5, none⟩ (.int .i64 ((rd_T66 l0 x17_1).f1.f4))).setCell ⟨gb340, 6, none⟩ (.int .i64 ((rd_T66 l0 x17_1).f1.f5))).heap[gb340]? = some (.cells #[.int .i64 ((rd_T66 l0 x17_1).f0), .int .i64 ((rd_T66 l0 x17_1).f1.f0), .int .i64 ((rd_T66 l0 x17_1).f1.f1), .int .i64 ((rd_T66 l0 x17_1).f1.f2), .int .i64 ((rd_T66 l0 x17_1).f1.f3), .int .i64 ((rd_T66 l0 x17_1).f1.f4), .int .i64 ((rd_T66 l0 x17_1).f1.f5)] 66 (0, 0))) := ⟨by (with_reducible repeat (first | refine uH ?_ _ | refine uI ?_ | refine uG ?_ _)); refine uN (cs := #[.int .i64 ((rd_T66 l0 x17_1).f0), .int .i64 ((rd_T66 l0 x17_1).f1.f0), .int .i64 ((rd_T66 l0 x17_1).f1.f1), .int .i64 ((rd_T66 l0 x17_1).f1.f2), .int .i64 ((rd_T66 l0 x17_1).f1.f3), .int .i64 ((rd_T66 l0 x17_1).f1.f4), .int .i64 0]) ?_ 6 _ rfl; (with_reducible repeat (first | refine uH ?_ _ | refine uI ?_ | refine uG ?_ _)); refine uN (cs := #[.int .i64 ((rd_T66 l0 x17_1).f0), .int .i64 ((rd_T66 l0 x17_1).f1.f0), .int .i64 ((rd_T66 l0 x17_1).f1.f1), .int .i64 ((rd_T66 l0 x17_1).f1.f2), .int .i64 ((rd_T66 l0 x17_1).f1.f3), .int .i64 0, .int .i64 0]) ?_ 5 _ rfl; (with_reducible repeat (first | refine uH ?_ _ | refine uI ?_ | refine uG ?_ _)); refine uN (cs := #[.int .i64 ((rd_T66 l0 x17_1).f0), .int .i64 ((rd_T66 l0 x17_1).f1.f0), .int .i64 ((rd_T66 l0 x17_1).f1.f1), .int .i64 ((rd_T66 l0 x17_1).f1.f2), .int .i64 0, .int .i64 0, .int .i64 0]) ?_ 4 _ rfl; (with_reducible repeat (first | refine uH ?_ _ | refine uI ?_ | refine uG ?_ _)); refine uN (cs := #[.int .i64 ((rd_T66 l0 x17_1).f0), .int .i64 ((rd_T66 l0 x17_1).f1.f0), .int .i64 ((rd_T66 l0 x17_1).f1.f1), .int .i64 0, .int .i64 0, .int .i64 0, .int .i64 0]) ?_ 3 _ rfl; (with_reducible repeat (first | refine uH ?_ _ | refine uI ?_ | refine uG ?_ _)); refine uN (cs := #[.int .i64 ((rd_T66 l0 x17_1).f0), .int .i64 ((rd_T66 l0 x17_1).f1.f0), .int .i64 0, .int .i64 0, .int .i64 0, .int .i64 0, .int .i64 0]) ?_ 2 _ rfl; (with_reducible repeat (first | refine uH ?_ _ | refine uI ?_ | refine uG ?_ _)); refine uN (cs := #[.int .i64 ((rd_T66 l0 x17_1).f0), .int .i64 0, .int .i64 0, .int .i64 0, .int .i64 0, .int .i64 0, .int .i64 0]) ?_ 1 _ rfl; (with_reducible repeat (first | refine uH ?_ _ | refine uI ?_ | refine uG ?_ _)); refine uN (cs := #[.int .i64 0, .int .i64 0, .int .i64 0, .int .i64 0, .int .i64 0, .int .i64 0, .int .i64 0]) ?_ 0 _ rfl; (with_reducible repeat (first | refine uH ?_ _ | refine uI ?_ | refine uG ?_ _)); exact BK340.out⟩
      have n2_ : Aside0 (Below w.heap.size w (((((((w17.setCell ⟨gb340, 0, none⟩ (.int .i64 ((rd_T66 l0 x17_1).f0))).setCell ⟨gb340, 1, none⟩ (.int .i64 ((rd_T66 l0 x17_1).f1.f0))).setCell ⟨gb340, 2, none⟩ (.int .i64 ((rd_T66 l0 x17_1).f1.f1))).setCell ⟨gb340, 3, none⟩ (.int .i64 ((rd_T66 l0 x17_1).f1.f2))).setCell ⟨gb340, 4, none⟩ (.int .i64 ((rd_T66 l0 x17_1).f1.f3))).setCell ⟨gb340, 5, none⟩ (.int .i64 ((rd_T66 l0 x17_1).f1.f4))).setCell ⟨gb340, 6, none⟩ (.int .i64 ((rd_T66 l0 x17_1).f1.f5)))) := ⟨q3⟩
      (try clear HO_3)
      (try clear BK340)
      (try clear HB)
      generalize (((((((w17.setCell ⟨gb340, 0, none⟩ (.int .i64 ((rd_T66 l0 x17_1).f0))).setCell ⟨gb340, 1, none⟩ (.int .i64 ((rd_T66 l0 x17_1).f1.f0))).setCell ⟨gb340, 2, none⟩ (.int .i64 ((rd_T66 l0 x17_1).f1.f1))).setCell ⟨gb340, 3, none⟩ (.int .i64 ((rd_T66 l0 x17_1).f1.f2))).setCell ⟨gb340, 4, none⟩ (.int .i64 ((rd_T66 l0 x17_1).f1.f3))).setCell ⟨gb340, 5, none⟩ (.int .i64 ((rd_T66 l0 x17_1).f1.f4))).setCell ⟨gb340, 6, none⟩ (.int .i64 ((rd_T66 l0 x17_1).f1.f5))) = w19 at n0_ n1_ n2_ ⊢
      have HO_3 := n0_
      have BK340 := n1_
      have HB := n2_
      clear n0_ n1_ n2_
      replace HO_3 := Aside0.mk (Kd.uW HO_3.out)
      replace BK340 := Aside0.mk (uI BK340.out)
      replace HB := Aside0.mk (below_drew1 HB.out)
      refine start_ (n := 12) (S := fun w' => w'.cell? ⟨gb340, 0, none⟩ = some (.int .i64 ((rd_T66 l0 x17_1).f0)) ∧ w'.cell? ⟨gb340, 1, none⟩ = some (.int .i64 ((rd_T66 l0 x17_1).f1.f0)) ∧ w'.cell? ⟨gb340, 2, none⟩ = some (.int .i64 ((rd_T66 l0 x17_1).f1.f1)) ∧ w'.cell? ⟨gb340, 3, none⟩ = some (.int .i64 ((rd_T66 l0 x17_1).f1.f2)) ∧ w'.cell? ⟨gb340, 4, none⟩ = some (.int .i64 ((rd_T66 l0 x17_1).f1.f3)) ∧ w'.cell? ⟨gb340, 5, none⟩ = some (.int .i64 ((rd_T66 l0 x17_1).f1.f4)) ∧ w'.cell? ⟨gb340, 6, none⟩ = some (.int .i64 ((rd_T66 l0 x17_1).f1.f5))) (ds := []) tb8 (by kernel_rfl) rfl rfl ⟨(uA BK340.out 0).trans rfl, (uA BK340.out 1).trans rfl, (uA BK340.out 2).trans rfl, (uA BK340.out 3).trans rfl, (uA BK340.out 4).trans rfl, (uA BK340.out 5).trans rfl, (uA BK340.out 6).trans rfl⟩ (fun hHeld => ?_); refine with_tabW impl_FormatLog.tab9 impl_FormatLog.bits9 (fun HT_ HW_ => ?_)
      generalize w19.drew = w20 at HO_3 BK340 HB hHeld ⊢
      refine uC (i := 0) (N := some 21) (v := ?_) (a' := ?_) tb9 rfl rfl (uK HT_.out (by kernel_rfl)) (fun _ _ _ h => h) (Or.inl ⟨by rfl, ?_⟩) ?_ ?_
      rotate_left
      · intro w'
        go_simp
        with_reducible rfl
      rotate_left
      · simp only [Act.put, uY, uZ, vA, uB, uD]
        rfl
      refine uC (i := 1) (N := some 22) (v := ?_) (a' := ?_) tb10 rfl rfl (uK HT_.out (by kernel_rfl)) (fun _ _ _ h => h) (Or.inl ⟨by rfl, ?_⟩) ?_ ?_
      rotate_left
      · intro w'
        go_simp
        with_reducible rfl
      rotate_left
      · simp only [Act.put, uY, uZ, vA, uB, uD]
        rfl
      refine uC (i := 5) (N := some 26) (v := ?_) (a' := ?_) #[true, true, false, false, false, true, false, false, false, false, false, false] rfl rfl (uK HT_.out (by kernel_rfl)) (fun _ _ _ h => h) (Or.inl ⟨by rfl, ?_⟩) ?_ ?_
      rotate_left
      · intro w'
        go_simp
        with_reducible rfl
      rotate_left
      · simp only [Act.put, uY, uZ, vA, uB, uD]
        rfl
      refine take_ (i := 2) (N := some 23) (v := ?_) (a' := ?_) #[true, true, true, false, false, true, false, false, false, false, false, false] rfl rfl (take_ofW HT_.out HW_.out (by kernel_rfl)) (fun _ _ _ h => h) (Or.inl ⟨by rfl, ?_⟩) hHeld ?_ ?_
      rotate_left
      · rintro w' ⟨s0, s1, s2, s3, s4, s5, s6⟩
        go_simp
        with_reducible rfl
      rotate_left
      · simp only [Act.put, uY, uZ, vA, uB, uD]
        rfl
      refine take_ (i := 6) (N := some 27) (v := ?_) (a' := ?_) #[true, true, true, false, false, true, true, false, false, false, false, false] rfl rfl (take_ofW HT_.out HW_.out (by kernel_rfl)) (fun _ _ _ h => h) (Or.inl ⟨by rfl, ?_⟩) hHeld ?_ ?_
      rotate_left
      · rintro w' ⟨s0, s1, s2, s3, s4, s5, s6⟩
        go_simp
        with_reducible rfl
      rotate_left
      · simp only [Act.put, uY, uZ, vA, uB, uD]
        rfl
      refine one_ (i := 3) (N := some 24) #[true, true, true, true, false, true, true, false, false, false, false, false] rfl rfl (one_of HT_.out (by kernel_rfl)) (by decide) (fun K hK => ?_)
      refine goes_ Tryd.func87 (by kernel_rfl) rfl #[.int .i64 ((rd_T66 l0 x17_1).f0)] (by rfl) rfl rfl q8 ?_
      with_reducible refine (impl_FormatInt.calls ((rd_T66 l0 x17_1).f0) t341 _ ?side1 A12.out).mono ?_
      (case side1 => exact q15)
      rintro e w21 ⟨rfl, hb⟩
      refine ⟨_, rfl, ?_⟩
      replace HO_3 := Kd.tR HO_3 hb
      replace BK340 := tBlk BK340 hb
      replace HB := uQ HB hb
      (try clear hb)
      (try clear hb2)
      (try clear hk)
      (try clear hi)
      refine hK.out _ _ ⟨(uA BK340.out 0).trans rfl, (uA BK340.out 1).trans rfl, (uA BK340.out 2).trans rfl, (uA BK340.out 3).trans rfl, (uA BK340.out 4).trans rfl, (uA BK340.out 5).trans rfl, (uA BK340.out 6).trans rfl⟩ (fun hHeld => ?_)
      clear hK K
      refine norm_ (a' := ?_) ?_ ?_
      rotate_left
      · show Act.put _ (some 24) _ = _
        simp only [Act.put, uY, uZ, vA, uB, uD]
        rfl
      refine uC (i := 4) (N := some 25) (v := ?_) (a' := ?_) #[true, true, true, true, true, true, true, false, false, false, false, false] rfl rfl (uK HT_.out (by kernel_rfl)) (fun _ _ _ h => h) (Or.inl ⟨by rfl, ?_⟩) ?_ ?_
      rotate_left
      · intro w'
        go_simp
        with_reducible rfl
      rotate_left
      · simp only [Act.put, uY, uZ, vA, uB, uD]
        rfl
      refine one_ (i := 7) (N := some 28) #[true, true, true, true, true, true, true, true, false, false, false, false] rfl rfl (one_of HT_.out (by kernel_rfl)) (by decide) (fun K hK => ?_)
      refine goes_ Tryd.func88 (by kernel_rfl) rfl #[.agg #[.int .i64 ((rd_T66 l0 x17_1).f1.f0), .int .i64 ((rd_T66 l0 x17_1).f1.f1), .int .i64 ((rd_T66 l0 x17_1).f1.f2), .int .i64 ((rd_T66 l0 x17_1).f1.f3), .int .i64 ((rd_T66 l0 x17_1).f1.f4), .int .i64 ((rd_T66 l0 x17_1).f1.f5)]] (by rfl) rfl rfl q8 ?_
      with_reducible refine (impl_FormatOp.calls ((rd_T66 l0 x17_1).f1.f0) ((rd_T66 l0 x17_1).f1.f1) ((rd_T66 l0 x17_1).f1.f2) ((rd_T66 l0 x17_1).f1.f3) ((rd_T66 l0 x17_1).f1.f4) ((rd_T66 l0 x17_1).f1.f5) t342 _ ?side1 A14.out).mono ?_
      (case side1 => exact q15)
      rintro e w22 ⟨rfl, hb⟩
      refine ⟨_, rfl, ?_⟩
      replace HO_3 := Kd.tR HO_3 hb
      replace BK340 := tBlk BK340 hb
      replace HB := uQ HB hb
      (try clear hb)
      (try clear hb2)
      (try clear hk)
      (try clear hi)
      refine hK.out _ _ ⟨(uA BK340.out 0).trans rfl, (uA BK340.out 1).trans rfl, (uA BK340.out 2).trans rfl, (uA BK340.out 3).trans rfl, (uA BK340.out 4).trans rfl, (uA BK340.out 5).trans rfl, (uA BK340.out 6).trans rfl⟩ (fun hHeld => ?_)
      clear hK K
      refine norm_ (a' := ?_) ?_ ?_
      rotate_left
      · show Act.put _ (some 28) _ = _
        simp only [Act.put, uY, uZ, vA, uB, uD]
        rfl
      refine uC (i := 8) (N := some 29) (v := ?_) (a' := ?_) tb16 rfl rfl (uK HT_.out (by kernel_rfl)) (fun _ _ _ h => h) (Or.inl ⟨by rfl, ?_⟩) ?_ ?_
      rotate_left
      · intro w'
        go_simp
        with_reducible rfl
      rotate_left
      · simp only [Act.put, uY, uZ, vA, uB, uD]
        rfl
      refine one_ (i := 9) (N := some 30) tb20 rfl rfl (one_of HT_.out (by kernel_rfl)) (by decide) (fun K hK => ?_)
      refine value_ (w1 := ?_) (v := ?_) (by rfl) rfl ?_ ?_
      rotate_left 2
      · go_simp
        constructor
        · rfl
        rfl
      refine hK.out _ _ ⟨(uA (uG BK340.out _) 0).trans rfl, (uA (uG BK340.out _) 1).trans rfl, (uA (uG BK340.out _) 2).trans rfl, (uA (uG BK340.out _) 3).trans rfl, (uA (uG BK340.out _) 4).trans rfl, (uA (uG BK340.out _) 5).trans rfl, (uA (uG BK340.out _) 6).trans rfl⟩ (fun hHeld => ?_)
      clear hK K
      refine norm_ (a' := ?_) ?_ ?_
      rotate_left
      · show Act.put _ (some 30) _ = _
        simp only [Act.put, uY, uZ, vA, uB, uD]
        rfl
      refine one_ (i := 10) (N := some 31) tb24 rfl rfl (one_of HT_.out (by kernel_rfl)) (by decide) (fun K hK => ?_)
      refine Kd.R_append_step Kd.string (w0 := w) w.heap.size (by rfl) (.tmp 21) (.tmp 30) 37 9 (.string ⟨#[]⟩) 16 rfl Tryd.underlying37 info9 rfl (by decide) (by omega) u3 x3_1 ((t341 ++ (⟨#[58]⟩ : ByteArray)) ++ t342) [.string ((t341 ++ (⟨#[58]⟩ : ByteArray)) ++ t342)] (fun _ => True) (fun _ => False) rfl rfl ?aP (fun _ hk => hk.elim) ?aF ?aO ?aB ?aS ?aL ?_
      (case aP => exact rfl)
      (case aB => exact q3)
      (case aF => exact (fun _ _ => trivial))
      (case aO => exact (rSR HO_3.out))
      (case aS => exact (uU q3))
      (case aL => have := LMc16.out; omega)
      intro v344 w23 ho hb hg hat
      rw [← Ny343.out] at ho
      have n0_ := tGr BK340 hg (Kd.R_ne HO_3.out BK340.out (by decide))
      have n1_ := Aside0.mk (hb)
      have n2_ := Aside0.mk (ho)
      clear BK340
      clear HB
      clear HO_3
      have BK340 := n0_
      have HB := n1_
      have HO345 := n2_
      clear n0_ n1_ n2_
      clear ho hb hg hat
      refine hK.out _ _ ⟨(uA BK340.out 0).trans rfl, (uA BK340.out 1).trans rfl, (uA BK340.out 2).trans rfl, (uA BK340.out 3).trans rfl, (uA BK340.out 4).trans rfl, (uA BK340.out 5).trans rfl, (uA BK340.out 6).trans rfl⟩ (fun hHeld => ?_)
      clear hK K
      refine norm_ (a' := ?_) ?_ ?_
      rotate_left
      · show Act.put _ (some 31) _ = _
        simp only [Act.put, uY, uZ, vA, uB, uD]
        rfl
      refine uC (i := 11) (N := some 3) (v := ?_) (a' := ?_) tb28 rfl rfl (uK HT_.out (by kernel_rfl)) (fun _ _ _ h => h) (Or.inl ⟨by rfl, ?_⟩) ?_ ?_
      rotate_left
      · intro w'
        go_simp
        with_reducible rfl
      rotate_left
      · simp only [Act.put, uY, uZ, vA, uB, uD]
        rfl
      refine done_ (done_of HT_.out (by kernel_rfl)) ?_
      try go_wp2
      go_roundg k1
      case measure => have := HK1.out; omega
      case rel => exact ⟨(y343), (wrap64 (x17_1 + 1)), q10, H', ⟨by have := HK1.out; omega⟩, ⟨by (with_reducible repeat (first | apply Kd.uT | apply Kd.uS | apply Kd.uW)); exact HO345.out⟩, ⟨q3⟩⟩

/-! ### impl_DigestList: function 9 -/
def impl_DigestList.l0 : Nat → List (S66) → List Int → Int → Int → Option (List Int)
  | 0, _, _, _, _ => none
  | k + 1, x0, x3, x11, x12 => if x12 < x11 then (if 0 ≤ x12 then (if x12 < (x3.length : Int) then (if x12 ≤ (wrap64 (x12 + 1)) then (if (wrap64 (x12 + 1)) ≤ (x0.length : Int) then ((impl_FormatLog.f k ((x0.take ((wrap64 (x12 + 1)) : Int).toNat).drop (x12 : Int).toNat)).bind fun t359 => ((impl_Checksum.f k t359).bind fun t360 => (if x3.length < 17592186044416 then (impl_DigestList.l0 k x0 (x3 ++ [Int.tmod (wrap64 ((wrap64 (31 * (rd x3 x12))) + t360)) 9973]) x11 (wrap64 (x12 + 1))) else (none)))) else (none)) else (none)) else (none)) else (none)) else (some x3)
def impl_DigestList.f (k : Nat) (l0 : List (S66)) : Option (List Int) := (impl_IsLog.f k l0).bind fun t347 => (if t347 = true then (impl_DigestList.l0 k l0 (([11] : List Int)) (l0.length : Int) 0) else (some (([] : List Int))))
theorem impl_DigestList.mono_l : ∀ k, (∀ y0 y1 y2 y3, uF (impl_DigestList.l0 k y0 y1 y2 y3) (impl_DigestList.l0 (k + 1) y0 y1 y2 y3))
  | 0 => fun _ _ _ _ r h => by simp [impl_DigestList.l0] at h
  | k + 1 => by
    have ih0 := impl_DigestList.mono_l k
    intro y0 y1 y2 y3
    unfold impl_DigestList.l0
    repeat' first
    | (with_reducible exact ih0 _ _ _ _)
    | (with_reducible exact impl_Checksum.mono _ _)
    | (with_reducible exact impl_FormatLog.mono _ _)
    | (with_reducible exact impl_IsLog.mono _ _)
    | (with_reducible exact uF.refl _)
    | (with_reducible exact uF.none _)
    | (with_reducible refine uF.ite ?_ ?_)
    | (with_reducible refine uF.bind ?_ (fun _ => ?_))
    | exact ih0 _ _ _ _
    | exact impl_Checksum.mono _ _
    | exact impl_FormatLog.mono _ _
    | exact impl_IsLog.mono _ _
    | exact uF.none _
    | refine uF.ite ?_ ?_
    | refine uF.bind ?_ (fun _ => ?_)
theorem impl_DigestList.mono : ∀ a0 k, uF (impl_DigestList.f k a0) (impl_DigestList.f (k + 1) a0) := by
  intro a0 k
  have ih0 := impl_DigestList.mono_l k
  unfold impl_DigestList.f
  repeat' first
      | (with_reducible exact ih0 _ _ _ _)
      | (with_reducible exact impl_Checksum.mono _ _)
      | (with_reducible exact impl_FormatLog.mono _ _)
      | (with_reducible exact impl_IsLog.mono _ _)
      | (with_reducible exact uF.refl _)
      | (with_reducible exact uF.none _)
      | (with_reducible refine uF.ite ?_ ?_)
      | (with_reducible refine uF.bind ?_ (fun _ => ?_))
      | exact ih0 _ _ _ _
      | exact impl_Checksum.mono _ _
      | exact impl_FormatLog.mono _ _
      | exact impl_IsLog.mono _ _
      | exact uF.none _
      | refine uF.ite ?_ ?_
      | refine uF.bind ?_ (fun _ => ?_)
def impl_DigestList.T7 : Bool × List (List Nat × List Nat) := (true, [([], []), ([], []), ([], []), ([1, 2], [1, 2]), ([3], [3]), ([4], [4]), ([], []), ([], []), ([], []), ([8], [8]), ([6, 7, 9], [6, 7, 9]), ([10], [10]), ([11, 11], [11]), ([5, 12], [5, 12]), ([13], [13]), ([14], [14]), ([0, 15, 12], [0, 15]), ([16, 16, 0, 1, 2, 3, 4, 5, 6, 7, 8, 9, 10, 11, 12, 13, 14, 15, 16], [0, 1, 16])])
def impl_DigestList.B7 : List Nat := [0, 0, 0, 6, 14, 30, 0, 0, 0, 256, 960, 1984, 4032, 8190, 16382, 32766, 65535, 131071]
theorem impl_DigestList.tab7 : rtab .any (opsOf Tryd.f9 7) = impl_DigestList.T7 := by kernel_rfl
theorem impl_DigestList.bits7 : waitsOk impl_DigestList.T7.2 impl_DigestList.B7 = true := by kernel_rfl
set_option maxHeartbeats 8000000 in
set_option maxRecDepth 100000 in
theorem impl_DigestList.calls (k : Nat) (A0 : Option Addr) (c0 : Nat) (l0 : List (S66)) (r : List Int) (w : World) (hr0 : Kd.C k66 w A0 l0.length l0) (hc0 : l0.length ≤ c0) (hWF : WF w) (h : impl_DigestList.f k l0 = some r) :
    Calls Tryd.prog 9 #[.slice A0 l0.length c0] w fun e w' => ∃ v0_ : Value, e = .returned (v0_) ∧ Kd.R (Kd.int .i64) 3 w' w.heap.size (fun _ => True) v0_ r ∧ Below w.heap.size w w' := by
  have HR0 := Aside0.mk hr0
  have HC0 := Aside0.mk hc0
  clear hr0 hc0
  have HB := Aside0.mk (Below.refl w.heap.size w)
  have H : ((impl_IsLog.f k l0).bind fun t347 => (if t347 = true then (impl_DigestList.l0 k l0 (([11] : List Int)) (l0.length : Int) 0) else (some (([] : List Int))))) = some r := h
  clear h
  replace H := Option.bind_eq_some_iff.mp H
  obtain ⟨t347, A20, H⟩ := H
  try dsimp only at H
  have A2 := Aside0.mk A20
  clear A20
  by_cases c3 : t347 = true
  rotate_left
  · replace c3 := Bool.eq_false_iff.mpr c3
    subst c3
    try rw [if_neg (show ¬ (false = true) by decide)] at H
    obtain ⟨y348, hy348⟩ : ∃ y_ : List Int, y_ = (([] : List Int)) := ⟨_, rfl⟩
    replace H : (some y348) = some r := by first | (rw [hy348]; with_reducible exact H) | (have H2_ := (Option.bind_some _ _).symm.trans H; rw [hy348]; with_reducible exact H2_) | (have H2_ := (Option.bind_some _ _).symm.trans H; with_reducible exact H2_) | with_reducible exact H | (rw [hy348]; exact H) | exact H | rfl
    have Ny348 := Aside0.mk hy348
    clear hy348
    obtain rfl := Option.some.inj H
    go_enter Tryd.func9, Tryd.ntmps9
    go_wp2_with (first | ((with_reducible refine uE (f := 43) rfl ?_); refine uL (some 6) Tryd.func43 #[.slice A0 l0.length c0] ?_; (with_reducible refine (impl_IsLog.calls k _ _ l0 false _ ?side1 ?side2 A2.out).mono ?_); (case side1 => exact q14); (case side2 => exact HC0.out); rintro e w21 ⟨rfl, hb⟩; refine ⟨_, rfl, ?_⟩; replace HB := uQ HB hb; (try clear hb); (try clear hb2); (try clear hk); (try clear hi)) | ((with_reducible refine uR (N := 8) rfl ?_); refine Kd.R_lit (Kd.int .i64) _ 3 ?hg (N := 8) ?hd (xs := ([] : List Int)) (inner := []) (ok := fun _ => True) (okp := fun _ => True) ?hr ?hp (fun _ hk => hk) trivial (Below.refl _ _) (Nat.le_refl _) (by simp) ?_; (case hd => rfl); (case hg => rfl); (case hr => first | (go_simp; done) | (go_simp; rfl)); (case hp => exact (Reps.none _ _)); intro v349 w22 ho23 hb hg_ hnew_; clear hg_ hnew_; (first | rw [← Ny348.out] at ho23 | (simp only [Int.reduceToNat] at ho23; rw [← Ny348.out] at ho23)); have HO350 := Aside0.mk (Kd.uX ho23 (uU q0)); replace HB := uQ HB hb; clear hb ho23))
    go_ret
    exact ⟨_, q2, by (with_reducible repeat (first | apply Kd.uT | apply Kd.uS | apply Kd.uW)); exact HO350.out, q0⟩
  subst c3
  try rw [if_pos rfl] at H
  obtain ⟨y351, hy351⟩ : ∃ y_ : List Int, y_ = (([11] : List Int)) := ⟨_, rfl⟩
  replace H : (impl_DigestList.l0 k l0 y351 (l0.length : Int) 0) = some r := by first | (rw [hy351]; with_reducible exact H) | (have H2_ := (Option.bind_some _ _).symm.trans H; rw [hy351]; with_reducible exact H2_) | (have H2_ := (Option.bind_some _ _).symm.trans H; with_reducible exact H2_) | with_reducible exact H | (rw [hy351]; exact H) | exact H | rfl
  have Ny351 := Aside0.mk hy351
  clear hy351
  have H' := Aside0.mk H
  clear H
  go_enter Tryd.func9, Tryd.ntmps9
  go_wp2_with (first | ((with_reducible refine uE (f := 43) rfl ?_); refine uL (some 6) Tryd.func43 #[.slice A0 l0.length c0] ?_; (with_reducible refine (impl_IsLog.calls k _ _ l0 true _ ?side1 ?side2 A2.out).mono ?_); (case side1 => exact q14); (case side2 => exact HC0.out); rintro e w4 ⟨rfl, hb⟩; refine ⟨_, rfl, ?_⟩; replace HB := uQ HB hb; (try clear hb); (try clear hb2); (try clear hk); (try clear hi)) | ((with_reducible refine uR (N := 9) rfl ?_); refine Kd.R_lit (Kd.int .i64) _ 3 ?hg (N := 9) ?hd (xs := ([11] : List Int)) (inner := [.int .i64 11]) (ok := fun _ => True) (okp := fun _ => True) ?hr ?hp (fun _ hk => hk) trivial (Below.refl _ _) (Nat.le_refl _) (by simp) ?_; (case hd => rfl); (case hg => rfl); (case hr => first | (go_simp; done) | (go_simp; rfl)); (case hp => exact (Reps.one (show Kd.M (Kd.int .i64) _ _ _ 11 [.int .i64 11] from rfl) (Reps.none _ _))); intro v352 w5 ho6 hb hg_ hnew_; clear hg_ hnew_; (first | rw [← Ny351.out] at ho6 | (simp only [Int.reduceToNat] at ho6; rw [← Ny351.out] at ho6)); have HO353 := Aside0.mk (Kd.uX ho6 (uU q0)); replace HB := uQ HB hb; clear hb ho6))
  go_loopg [3, 12] k (fun kq v3 v12 w' => ∃ (x3_1 : List Int) (x12_1 : Int), v12 = .int .i64 x12_1 ∧ Aside0 (impl_DigestList.l0 kq l0 x3_1 (l0.length : Int) x12_1 = some r) ∧ Aside0 (kq ≤ k) ∧ Aside0 (Kd.R (Kd.int .i64) 3 w' w.heap.size (fun _ => True) v3 x3_1) ∧ Aside0 (Below w.heap.size w w'))
  case atStart => exact ⟨(y351), (0), q10, H', ⟨Nat.le_refl _⟩, ⟨by (with_reducible repeat (first | apply Kd.uT | apply Kd.uS | apply Kd.uW)); exact HO353.out⟩, ⟨q0⟩⟩
  case round =>
    clear H'
    try clear p2
    try clear c3
    try clear c4
    obtain ⟨x3_1, x12_1, rfl, HA, HK1, HO_3, HB⟩ := hrel
    cases gk with
    | zero => exact absurd HA.out (by simp [impl_DigestList.l0])
    | succ k1 =>
      have H := HA.out
      clear HA
      simp only [impl_DigestList.l0] at H
      by_cases c7 : x12_1 < (l0.length : Int)
      rotate_left
      · rw [if_neg c7] at H
        have c7b0 : decide (x12_1 < (l0.length : Int)) = false := decide_eq_false c7
        clear c7
        obtain rfl := Option.some.inj H
        go_wp2
        go_ret
        exact ⟨_, q2, q55, q0⟩
      rw [if_pos c7] at H
      have c7b0 : decide (x12_1 < (l0.length : Int)) = true := decide_eq_true c7
      clear c7
      by_cases c8 : 0 ≤ x12_1
      rotate_left
      · rw [if_neg c8] at H
        exact absurd H (by simp)
      rw [if_pos c8] at H
      have c8b0 : decide (0 ≤ x12_1) = true := decide_eq_true c8
      clear c8
      by_cases c9 : x12_1 < (x3_1.length : Int)
      rotate_left
      · rw [if_neg c9] at H
        exact absurd H (by simp)
      rw [if_pos c9] at H
      have c9b0 : decide (x12_1 < (x3_1.length : Int)) = true := decide_eq_true c9
      clear c9
      have c10b0 := eq_true (of_decide_eq_true q9 : 0 ≤ x12_1)
      by_cases c11 : x12_1 ≤ (wrap64 (x12_1 + 1))
      rotate_left
      · rw [if_neg c11] at H
        exact absurd H (by simp)
      rw [if_pos c11] at H
      have c11b0 := eq_true c11
      have c11b1 : decide (x12_1 ≤ (wrap64 (x12_1 + 1))) = true := decide_eq_true c11
      by_cases c12 : (wrap64 (x12_1 + 1)) ≤ (l0.length : Int)
      rotate_left
      · rw [if_neg c12] at H
        exact absurd H (by simp)
      rw [if_pos c12] at H
      have c12b0 := eq_true c12
      have c12b1 : decide ((wrap64 (x12_1 + 1)) ≤ (l0.length : Int)) = true := decide_eq_true c12
      obtain ⟨y355, hy355⟩ : ∃ y_ : List (S66), y_ = ((l0.take ((wrap64 (x12_1 + 1)) : Int).toNat).drop (x12_1 : Int).toNat) := ⟨_, rfl⟩
      replace H : ((impl_FormatLog.f k1 y355).bind fun t359 => ((impl_Checksum.f k1 t359).bind fun t360 => (if x3_1.length < 17592186044416 then (impl_DigestList.l0 k1 l0 (x3_1 ++ [Int.tmod (wrap64 ((wrap64 (31 * (rd x3_1 x12_1))) + t360)) 9973]) (l0.length : Int) (wrap64 (x12_1 + 1))) else (none)))) = some r := by first | (rw [hy355]; with_reducible exact H) | (have H2_ := (Option.bind_some _ _).symm.trans H; rw [hy355]; with_reducible exact H2_) | (have H2_ := (Option.bind_some _ _).symm.trans H; with_reducible exact H2_) | with_reducible exact H | (rw [hy355]; exact H) | exact H | rfl
      have Ny355 := Aside0.mk hy355
      clear hy355
      replace H := Option.bind_eq_some_iff.mp H
      obtain ⟨t359, A130, H⟩ := H
      try dsimp only at H
      have A13 := Aside0.mk A130
      clear A130
      replace H := Option.bind_eq_some_iff.mp H
      obtain ⟨t360, A140, H⟩ := H
      try dsimp only at H
      have A14 := Aside0.mk A140
      clear A140
      by_cases c15 : x3_1.length < 17592186044416
      rotate_left
      · rw [if_neg c15] at H
        exact absurd H (by simp)
      rw [if_pos c15] at H
      have LMc15 := Aside0.mk c15
      clear c15
      obtain ⟨y361, hy361⟩ : ∃ y_ : List Int, y_ = (x3_1 ++ [Int.tmod (wrap64 ((wrap64 (31 * (rd x3_1 x12_1))) + t360)) 9973]) := ⟨_, rfl⟩
      replace H : (impl_DigestList.l0 k1 l0 y361 (l0.length : Int) (wrap64 (x12_1 + 1))) = some r := by first | (rw [hy361]; with_reducible exact H) | (have H2_ := (Option.bind_some _ _).symm.trans H; rw [hy361]; with_reducible exact H2_) | (have H2_ := (Option.bind_some _ _).symm.trans H; with_reducible exact H2_) | with_reducible exact H | (rw [hy361]; exact H) | exact H | rfl
      have Ny361 := Aside0.mk hy361
      clear hy361
      have H' := Aside0.mk H
      clear H
      try go_wp2
      replace HO_3 := Aside0.mk (Kd.uW HO_3.out)
      replace HB := Aside0.mk (below_drew1 HB.out)
      obtain ⟨Ao17, co17, eo17⟩ := Kd.R_slice HO_3.out
      (first | subst eo17 | (injection eo17 with f1_ f2_ f3_; have f4_ := f1_.symm; have f5_ := f3_.symm; clear f1_ f2_ f3_; subst f4_; subst f5_))
      have p354 : 0 ≤ (x12_1 : Int) := of_decide_eq_true q9
      have q354 : x12_1 < (x3_1.length : Int) := of_decide_eq_true q9
      obtain ⟨ad354, e354, hx354_0⟩ := Kd.at_int (Kd.uM HO_3.out).2.2 x12_1 p354 q354
      cases e354
      replace p354 := eq_true p354
      replace q354 := eq_true q354
      have q18 : ((wrap64 (x12_1 + 1)) : Int) ≤ ((l0.length : Int) : Int) := of_decide_eq_true q9
      obtain ⟨i018, hi018, _, hsz18, _⟩ := info_parts info66
      have hroom18 : l0.length ≤ c0 := HC0.out
      have hC18 : Kd.C k66 _ A0 l0.length l0 := HR0.out
      have ql18 : (x12_1 : Int) ≤ ((wrap64 (x12_1 + 1)) : Int) := of_decide_eq_true q9
      have q018 : (0 : Int) ≤ (x12_1 : Int) := of_decide_eq_true q9
      have hcut18 := cut_mid (P := Tryd.prog) 24 66 .i64 .i64 Tryd.underlying24 hi018 7 hsz18 A0 l0.length c0 x12_1 (wrap64 (x12_1 + 1)) q018 ql18 q18 hroom18
      have hr18 := Kd.C_mid (lo := (x12_1 : Int).toNat) (hi := ((wrap64 (x12_1 + 1)) : Int).toNat) (c := c0) hC18 (by omega) (by omega) hroom18
      obtain ⟨A18, hA18⟩ : ∃ A1, A1 = (if c0 = (x12_1 : Int).toNat then A0 else (A0 : Option Addr).map (·.add ((x12_1 : Int).toNat * 7))) := ⟨_, rfl⟩
      obtain ⟨c18, hc18⟩ : ∃ c1, c1 = c0 - (x12_1 : Int).toNat := ⟨_, rfl⟩
      have hy18 : y355.length = ((wrap64 (x12_1 + 1)) : Int).toNat - (x12_1 : Int).toNat := (by rw [Ny355.out, List.length_drop, List.length_take] <;> omega)
      rw [show ((l0).take ((wrap64 (x12_1 + 1)) : Int).toNat).drop (x12_1 : Int).toNat = y355 from Ny355.out.symm] at hr18
      replace hr18 : Kd.C k66 _ A18 y355.length y355 := (by rw [hA18]; exact hr18)
      rw [← hy18, ← hA18, ← hc18] at hcut18
      have HR358 := Aside0.mk hr18
      have HC358 := Aside0.mk (show y355.length ≤ c18 from by rw [hy18, hc18]; exact Nat.sub_le_sub_right (Nat.le_trans (by omega) hroom18) _)
      clear hr18 hC18 hroom18 hi018 hsz18 hc18
      have KY18 := Aside0.mk hy18
      have KA18 := Aside0.mk hA18
      clear hy18 hA18
      replace q18 := eq_true q18
      refine start_ (n := 18) (S := fun w' => w'.cell? (ad354.add (x12_1).toNat) = some (.int .i64 (rd x3_1 x12_1))) (ds := [15, 16]) #[false, false, false, false, false, false, false, false, false, false, false, false, false, false, false, false, false, false] (by kernel_rfl) rfl rfl (hx354_0) (fun hHeld => ?_); refine with_tabW impl_DigestList.tab7 impl_DigestList.bits7 (fun HT_ HW_ => ?_)
      generalize wr.drew = w16 at HO_3 HB HR358 hx354_0 hHeld ⊢
      refine uC (i := 0) (N := some 15) (v := ?_) (a' := ?_) #[true, false, false, false, false, false, false, false, false, false, false, false, false, false, false, false, false, false] rfl rfl (uK HT_.out (by kernel_rfl)) (fun _ _ _ h => h) (Or.inl ⟨by rfl, ?_⟩) ?_ ?_
      rotate_left
      · intro w'
        go_simp
        with_reducible rfl
      rotate_left
      · simp only [Act.put, uY, uZ, vA, uB, uD]
        rfl
      refine uC (i := 1) (N := some 16) (v := ?_) (a' := ?_) #[true, true, false, false, false, false, false, false, false, false, false, false, false, false, false, false, false, false] rfl rfl (uK HT_.out (by kernel_rfl)) (fun _ _ _ h => h) (Or.inl ⟨by rfl, ?_⟩) ?_ ?_
      rotate_left
      · intro w'
        go_simp
        with_reducible rfl
      rotate_left
      · simp only [Act.put, uY, uZ, vA, uB, uD]
        rfl
      refine uC (i := 2) (N := some 17) (v := ?_) (a' := ?_) #[true, true, true, false, false, false, false, false, false, false, false, false, false, false, false, false, false, false] rfl rfl (uK HT_.out (by kernel_rfl)) (fun _ _ _ h => h) (Or.inl ⟨by rfl, ?_⟩) ?_ ?_
      rotate_left
      · intro w'
        go_simp
        with_reducible rfl
      rotate_left
      · simp only [Act.put, uY, uZ, vA, uB, uD]
        rfl
      refine uC (i := 3) (N := some 18) (v := ?_) (a' := ?_) #[true, true, true, true, false, false, false, false, false, false, false, false, false, false, false, false, false, false] rfl rfl (uK HT_.out (by kernel_rfl)) (fun _ _ _ h => h) (Or.inl ⟨by rfl, ?_⟩) ?_ ?_
      rotate_left
      · intro w'
        go_simp
        with_reducible rfl
      rotate_left
      · simp only [Act.put, uY, uZ, vA, uB, uD]
        rfl
      refine uC (i := 6) (N := some 21) (v := ?_) (a' := ?_) #[true, true, true, true, false, false, true, false, false, false, false, false, false, false, false, false, false, false] rfl rfl (uK HT_.out (by kernel_rfl)) (fun _ _ _ h => h) (Or.inl ⟨by rfl, ?_⟩) ?_ ?_
      rotate_left
      · intro w'
        go_simp
        with_reducible rfl
      rotate_left
      · simp only [Act.put, uY, uZ, vA, uB, uD]
        rfl
      refine uC (i := 7) (N := some 22) (v := ?_) (a' := ?_) #[true, true, true, true, false, false, true, true, false, false, false, false, false, false, false, false, false, false] rfl rfl (uK HT_.out (by kernel_rfl)) (fun _ _ _ h => h) (Or.inl ⟨by rfl, ?_⟩) ?_ ?_
      rotate_left
      · intro w'
        go_simp
        with_reducible rfl
      rotate_left
      · simp only [Act.put, uY, uZ, vA, uB, uD]
        rfl
      refine uC (i := 8) (N := some 23) (v := ?_) (a' := ?_) #[true, true, true, true, false, false, true, true, true, false, false, false, false, false, false, false, false, false] rfl rfl (uK HT_.out (by kernel_rfl)) (fun _ _ _ h => h) (Or.inl ⟨by rfl, ?_⟩) ?_ ?_
      rotate_left
      · intro w'
        go_simp
        with_reducible rfl
      rotate_left
      · simp only [Act.put, uY, uZ, vA, uB, uD]
        rfl
      refine uC (i := 9) (N := some 24) (v := ?_) (a' := ?_) #[true, true, true, true, false, false, true, true, true, true, false, false, false, false, false, false, false, false] rfl rfl (uK HT_.out (by kernel_rfl)) (fun _ _ _ h => h) (Or.inl ⟨by rfl, ?_⟩) ?_ ?_
      rotate_left
      · intro w'
        go_simp
        with_reducible rfl
      rotate_left
      · simp only [Act.put, uY, uZ, vA, uB, uD]
        rfl
      refine uC (i := 10) (N := some 25) (v := ?_) (a' := ?_) #[true, true, true, true, false, false, true, true, true, true, true, false, false, false, false, false, false, false] rfl rfl (uK HT_.out (by kernel_rfl)) (fun _ _ _ h => h) (Or.inl ⟨by rfl, ?_⟩) ?_ ?_
      rotate_left
      · intro w'
        go_simp
        with_reducible rfl
      rotate_left
      · simp only [Act.put, uY, uZ, vA, uB, uD]
        rfl
      refine take_ (i := 4) (N := some 19) (v := ?_) (a' := ?_) #[true, true, true, true, true, false, true, true, true, true, true, false, false, false, false, false, false, false] rfl rfl (take_ofW HT_.out HW_.out (by kernel_rfl)) (fun _ _ _ h => h) (Or.inl ⟨by rfl, ?_⟩) hHeld ?_ ?_
      rotate_left
      · intro w' s0
        go_simp
        with_reducible rfl
      rotate_left
      · simp only [Act.put, uY, uZ, vA, uB, uD]
        rfl
      refine uC (i := 5) (N := some 20) (v := ?_) (a' := ?_) #[true, true, true, true, true, true, true, true, true, true, true, false, false, false, false, false, false, false] rfl rfl (uK HT_.out (by kernel_rfl)) (fun _ _ _ h => h) (Or.inl ⟨by rfl, ?_⟩) ?_ ?_
      rotate_left
      · intro w'
        go_simp
        with_reducible rfl
      rotate_left
      · simp only [Act.put, uY, uZ, vA, uB, uD]
        rfl
      refine one_ (i := 11) (N := some 26) #[true, true, true, true, true, true, true, true, true, true, true, true, false, false, false, false, false, false] rfl rfl (one_of HT_.out (by kernel_rfl)) (by decide) (fun K hK => ?_)
      refine goes_ Tryd.func45 (by kernel_rfl) rfl #[.slice A18 y355.length c18] (by rfl) rfl rfl q8 ?_
      with_reducible refine (impl_FormatLog.calls k1 _ _ y355 t359 _ ?side1 ?side2 ?side3 A13.out).mono ?_
      (case side1 => repeat (first | exact (Kd.C_below HR358.out HB.out) | (with_reducible refine Kd.C_alloc ?_ _) | (with_reducible refine Kd.C_drewN ?_ _) | (with_reducible refine Kd.C_drew ?_)))
      (case side2 => exact HC358.out)
      (case side3 => exact q28)
      rintro e w19 ⟨rfl, hb⟩
      have HS0_ := (hb.cell (vE _ _ (hHeld))).trans (hHeld)
      refine ⟨_, rfl, ?_⟩
      replace HO_3 := Kd.tR HO_3 hb
      replace HB := uQ HB hb
      (try clear hb)
      (try clear hb2)
      (try clear hk)
      (try clear hi)
      refine hK.out _ _ (HS0_) (fun hHeld => ?_)
      clear hK K
      refine norm_ (a' := ?_) ?_ ?_
      rotate_left
      · show Act.put _ (some 26) _ = _
        simp only [Act.put, uY, uZ, vA, uB, uD]
        rfl
      refine one_ (i := 12) (N := some 27) #[true, true, true, true, true, true, true, true, true, true, true, true, true, false, false, false, false, false] rfl rfl (one_of HT_.out (by kernel_rfl)) (by decide) (fun K hK => ?_)
      refine goes_ Tryd.func44 (by kernel_rfl) rfl #[.string t359] (by rfl) rfl rfl q8 ?_
      with_reducible refine (impl_Checksum.calls k1 t359 t360 _ A14.out).mono ?_
      rintro e w' ⟨rfl, ⟨nd, rfl⟩⟩
      refine ⟨_, rfl, ?_⟩
      refine hK.out _ _ (hHeld) (fun hHeld => ?_)
      clear hK K
      refine norm_ (a' := ?_) ?_ ?_
      rotate_left
      · show Act.put _ (some 27) _ = _
        simp only [Act.put, uY, uZ, vA, uB, uD]
        rfl
      refine uC (i := 13) (N := some 28) (v := ?_) (a' := ?_) #[true, true, true, true, true, true, true, true, true, true, true, true, true, true, false, false, false, false] rfl rfl (uK HT_.out (by kernel_rfl)) (fun _ _ _ h => h) (Or.inl ⟨by rfl, ?_⟩) ?_ ?_
      rotate_left
      · intro w'
        go_simp
        with_reducible rfl
      rotate_left
      · simp only [Act.put, uY, uZ, vA, uB, uD]
        rfl
      refine uC (i := 14) (N := some 29) (v := ?_) (a' := ?_) #[true, true, true, true, true, true, true, true, true, true, true, true, true, true, true, false, false, false] rfl rfl (uK HT_.out (by kernel_rfl)) (fun _ _ _ h => h) (Or.inl ⟨by rfl, ?_⟩) ?_ ?_
      rotate_left
      · intro w'
        go_simp
        with_reducible rfl
      rotate_left
      · simp only [Act.put, uY, uZ, vA, uB, uD]
        rfl
      refine last_ (i := 15) (N := some 30) #[true, true, true, true, true, true, true, true, true, true, true, true, true, true, true, true, false, false] rfl rfl (one_of HT_.out (by kernel_rfl)) (by decide) (fun K hK => ?_)
      refine value_ (w1 := ?_) (v := ?_) (by rfl) rfl ?_ ?_
      rotate_left 2
      · go_simp
        constructor
        · rfl
        rfl
      refine hK.out _ _ ?_
      clear hK K
      refine norm_ (a' := ?_) ?_ ?_
      rotate_left
      · show Act.put _ (some 30) _ = _
        simp only [Act.put, uY, uZ, vA, uB, uD]
        rfl
      refine last_ (i := 16) (N := some 31) #[true, true, true, true, true, true, true, true, true, true, true, true, true, true, true, true, true, false] rfl rfl (one_of HT_.out (by kernel_rfl)) (by decide) (fun K hK => ?_)
      refine Kd.R_append_step (Kd.int .i64) (w0 := w) w.heap.size (by rfl) (.tmp 15) (.tmp 30) 27 3 (.int .i64 0) 8 rfl Tryd.underlying27 info3 rfl (by decide) (by omega) (.slice (some ad354) x3_1.length co17) x3_1 (Int.tmod (wrap64 ((wrap64 (31 * (rd x3_1 x12_1))) + t360)) 9973) [.int .i64 (Int.tmod (wrap64 ((wrap64 (31 * (rd x3_1 x12_1))) + t360)) 9973)] (fun _ => True) (fun _ => False) rfl rfl ?aP (fun _ hk => hk.elim) ?aF ?aO ?aB ?aS ?aL ?_
      (case aP => exact rfl)
      (case aB => exact q51)
      (case aF => exact (fun _ _ => trivial))
      (case aO => exact (rSR HO_3.out))
      (case aS => exact q40)
      (case aL => have := LMc15.out; omega)
      intro v362 w20 ho hb hg hat
      rw [← Ny361.out] at ho
      have n0_ := Aside0.mk (hb)
      have n1_ := Aside0.mk (ho)
      clear HB
      clear HO_3
      have HB := n0_
      have HO363 := n1_
      clear n0_ n1_
      clear ho hb hg hat
      refine hK.out _ _ ?_
      clear hK K
      refine norm_ (a' := ?_) ?_ ?_
      rotate_left
      · show Act.put _ (some 31) _ = _
        simp only [Act.put, uY, uZ, vA, uB, uD]
        rfl
      refine uC (i := 17) (N := some 3) (v := ?_) (a' := ?_) #[true, true, true, true, true, true, true, true, true, true, true, true, true, true, true, true, true, true] rfl rfl (uK HT_.out (by kernel_rfl)) (fun _ _ _ h => h) (Or.inl ⟨by rfl, ?_⟩) ?_ ?_
      rotate_left
      · intro w'
        go_simp
        with_reducible rfl
      rotate_left
      · simp only [Act.put, uY, uZ, vA, uB, uD]
        rfl
      refine done_ (done_of HT_.out (by kernel_rfl)) ?_
      try go_wp2
      go_roundg k1
      case measure => have := HK1.out; omega
      case rel => exact ⟨(y361), (wrap64 (x12_1 + 1)), q10, H', ⟨by have := HK1.out; omega⟩, ⟨by (with_reducible repeat (first | apply Kd.uT | apply Kd.uS | apply Kd.uW)); exact HO363.out⟩, ⟨q0⟩⟩

end Go.Proofs.YtcikahnmiiichaaDoor.G
