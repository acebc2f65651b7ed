/- Go functions as Lean functions, and the proof that the code comes to them: written by a program of this session out of the translation. -/
import Derived.Test.YtcikahnmiiichaaDoorL0
import Derived.Test.YtcikahnmiiichaaDoorL8
import Derived.Test.YtcikahnmiiichaaDoorL9
import Derived.Test.YtcikahnmiiichaaDoorShelf
namespace Go.Proofs.YtcikahnmiiichaaDoor.L
open List renaming setIfInBounds_toArray → vD, set_cons_zero → vE, set_cons_succ → vF
open Go.World renaming block_lt_of_cell? → vJ
open Go.Proofs.YtcikahnmiiichaaDoor.Given
open Go.RowKit Go.Proofs.YtcikahnmiiichaaDoorW.PrintWords Go.Proofs.YtcikahnmiiichaaDoorW.PrintLast Go.Proofs.YtcikahnmiiichaaDoorW.PrintMore
attribute [local go_sem] max2_int min2_int max_two min_two max_three min_three max_four min_four   -- for this text's walks alone
set_option linter.unusedVariables false
set_option linter.unusedSimpArgs false

/-! ### impl_FormatLog: function 45 -/
def impl_FormatLog.l0 : Nat → List ByteArray → List (S66) → Int → Int → Option (ByteArray)
  | 0, _, _, _, _ => none
  | k + 1, x3, x15, x16, x17 => if x17 < x16 then (if 0 ≤ x17 then (if x17 < (x15.length : Int) then ((impl_FormatInt.f ((rd_T66 x15 x17).f0)).bind fun t219 => (if t219.size + 1 ≤ 9223372036854775807 then ((impl_FormatOp.f ((rd_T66 x15 x17).f1.f0) ((rd_T66 x15 x17).f1.f1) ((rd_T66 x15 x17).f1.f2) ((rd_T66 x15 x17).f1.f3) ((rd_T66 x15 x17).f1.f4) ((rd_T66 x15 x17).f1.f5)).bind fun t220 => (if (t219 ++ (⟨#[58]⟩ : ByteArray)).size + t220.size ≤ 9223372036854775807 then (if x3.length < 8796093022208 then (impl_FormatLog.l0 k (x3 ++ [(t219 ++ (⟨#[58]⟩ : ByteArray)) ++ t220]) x15 x16 (wrap64 (x17 + 1))) else (none)) else (none))) else (none))) else (none)) else (none)) else ((strings_Join.f x3 (⟨#[59]⟩ : ByteArray)).bind fun t224 => (some t224))
def impl_FormatLog.f (k : Nat) (l0 : List (S66)) : Option (ByteArray) := (impl_IsLog.f k l0).bind fun t213 => (if t213 = true then (if (l0.length : Int) = 0 then (some (⟨#[110, 111, 110, 101]⟩ : ByteArray)) else (impl_FormatLog.l0 k (([] : List ByteArray)) l0 (l0.length : Int) 0)) else (some (⟨#[]⟩ : ByteArray)))
theorem impl_FormatLog.mono_l : ∀ k, (∀ y0 y1 y2 y3, uE (impl_FormatLog.l0 k y0 y1 y2 y3) (impl_FormatLog.l0 (k + 1) y0 y1 y2 y3))
  | 0 => fun _ _ _ _ r h => by simp [impl_FormatLog.l0] at h
  | k + 1 => by
    have ih0 := impl_FormatLog.mono_l k
    intro y0 y1 y2 y3
    unfold impl_FormatLog.l0
    repeat' first
    | (with_reducible exact ih0 _ _ _ _)
    | (with_reducible exact impl_IsLog.mono _ _)
    | (with_reducible exact uE.refl _)
    | (with_reducible exact uE.none _)
    | (with_reducible refine uE.ite ?_ ?_)
    | (with_reducible refine uE.bind ?_ (fun _ => ?_))
    | exact ih0 _ _ _ _
    | exact uE.none _
    | refine uE.ite ?_ ?_
    | refine uE.bind ?_ (fun _ => ?_)
theorem impl_FormatLog.mono : ∀ a0 k, uE (impl_FormatLog.f k a0) (impl_FormatLog.f (k + 1) a0) := by
  intro a0 k
  have ih0 := impl_FormatLog.mono_l k
  unfold impl_FormatLog.f
  repeat' first
      | (with_reducible exact ih0 _ _ _ _)
      | (with_reducible exact impl_IsLog.mono _ _)
      | (with_reducible exact uE.refl _)
      | (with_reducible exact uE.none _)
      | (with_reducible refine uE.ite ?_ ?_)
      | (with_reducible refine uE.bind ?_ (fun _ => ?_))
      | exact ih0 _ _ _ _
      | exact uE.none _
      | refine uE.ite ?_ ?_
      | refine uE.bind ?_ (fun _ => ?_)
def impl_FormatLog.T9 : Bool × List (List Nat × List Nat) := (true, [([], []), ([], []), ([1], [1]), ([2], [2]), ([3], [3]), ([], []), ([5], [5]), ([6, 3], [6]), ([4, 7], [4, 7]), ([8], [8]), ([0, 9, 7], [0, 9]), ([10, 10, 0, 1, 2, 3, 4, 5, 6, 7, 8, 9, 10], [0, 10])])
def impl_FormatLog.B9 : List Nat := [0, 0, 2, 6, 14, 0, 32, 110, 254, 510, 1023, 2047]
theorem impl_FormatLog.tab9 : rtab .any (opsOf Tryd.f45 9) = impl_FormatLog.T9 := by kernel_rfl
theorem impl_FormatLog.bits9 : waitsOk impl_FormatLog.T9.2 impl_FormatLog.B9 = true := by kernel_rfl
set_option maxHeartbeats 8000000 in
set_option maxRecDepth 100000 in
theorem impl_FormatLog.calls (k : Nat) (A0 : Option Addr) (c0 : Nat) (l0 : List (S66)) (r : ByteArray) (w : World) (hr0 : Kd.C k66 w A0 l0.length l0) (hc0 : l0.length ≤ c0) (hWF : WF w) (h : impl_FormatLog.f k l0 = some r) :
    Calls Tryd.prog 45 #[.slice A0 l0.length c0] w fun e w' => e = .returned (.string r) ∧ Below w.heap.size w w' := by
  have hu66 := Tryd.underlying66
  have hu64 := Tryd.underlying64
  have HR0 := Aside0.mk hr0
  have HC0 := Aside0.mk hc0
  clear hr0 hc0
  have HB := Aside0.mk (Below.refl w.heap.size w)
  have H : ((impl_IsLog.f k l0).bind fun t213 => (if t213 = true then (if (l0.length : Int) = 0 then (some (⟨#[110, 111, 110, 101]⟩ : ByteArray)) else (impl_FormatLog.l0 k (([] : List ByteArray)) l0 (l0.length : Int) 0)) else (some (⟨#[]⟩ : ByteArray)))) = some r := h
  clear h
  replace H := Option.bind_eq_some_iff.mp H
  obtain ⟨t213, A20, H⟩ := H
  try dsimp only at H
  have A2 := Aside0.mk A20
  clear A20
  by_cases c3 : t213 = true
  rotate_left
  · replace c3 := Bool.eq_false_iff.mpr c3
    subst c3
    try rw [if_neg (show ¬ (false = true) by decide)] at H
    obtain rfl := Option.some.inj H
    go_enter Tryd.func45, Tryd.ntmps45
    go_wp2_with (first | ((with_reducible refine uM (f := 43) rfl ?_); refine uY (some 8) Tryd.func43 #[.slice A0 l0.length c0] ?_; (with_reducible refine (impl_IsLog.calls k _ _ l0 false _ ?side1 ?side2 A2.out).mono ?_); (case side1 => exact cq25); (case side2 => exact HC0.out); rintro e w27 ⟨rfl, hb⟩; refine ⟨_, rfl, ?_⟩; replace HB := uR HB hb; (try clear hb)))
    go_ret
    exact ⟨cq3, cq1⟩
  subst c3
  try rw [if_pos rfl] at H
  by_cases c4 : (l0.length : Int) = 0
  · rw [if_pos c4] at H
    have c4b0 := beq_iff_eq.mpr c4
    have c4b1 := bne_eq_false_iff_eq.mpr c4
    clear c4
    obtain rfl := Option.some.inj H
    go_enter Tryd.func45, Tryd.ntmps45
    go_wp2_with (first | ((with_reducible refine uM (f := 43) rfl ?_); refine uY (some 8) Tryd.func43 #[.slice A0 l0.length c0] ?_; (with_reducible refine (impl_IsLog.calls k _ _ l0 true _ ?side1 ?side2 A2.out).mono ?_); (case side1 => exact cq25); (case side2 => exact HC0.out); rintro e w5 ⟨rfl, hb⟩; refine ⟨_, rfl, ?_⟩; replace HB := uR HB hb; (try clear hb)))
    go_ret
    exact ⟨cq3, cq1⟩
  rw [if_neg c4] at H
  have c4b0 := beq_eq_false_iff_ne.mpr c4
  have c4b1 := bne_iff_ne.mpr c4
  have c4b2 : ¬ (l0 = []) := fun h_ => c4 (by rw [h_]; rfl)
  obtain ⟨y214, hy214⟩ : ∃ y_ : List ByteArray, y_ = (([] : List ByteArray)) := ⟨_, rfl⟩
  replace H : (impl_FormatLog.l0 k y214 l0 (l0.length : Int) 0) = some r := rpl hy214 H
  have Ny214 := Aside0.mk hy214
  clear hy214
  have H' := Aside0.mk H
  clear H
  go_enter Tryd.func45, Tryd.ntmps45
  go_wp2_with (first | ((with_reducible refine uM (f := 43) rfl ?_); refine uY (some 8) Tryd.func43 #[.slice A0 l0.length c0] ?_; (with_reducible refine (impl_IsLog.calls k _ _ l0 true _ ?side1 ?side2 A2.out).mono ?_); (case side1 => exact cq25); (case side2 => exact HC0.out); rintro e w6 ⟨rfl, hb⟩; refine ⟨_, rfl, ?_⟩; replace HB := uR HB hb; (try clear hb)) | ((with_reducible refine gate_dst (N := 14) rfl ?_); refine Kd.R_lit Kd.string _ 9 ?hg (N := 14) ?hd (xs := ([] : List ByteArray)) (inner := []) (ok := fun _ => True) (okp := fun _ => True) ?hr ?hp (fun _ hk => hk) trivial (Below.refl _ _) (Nat.le_refl _) (by simp) ?_; (case hd => rfl); (case hg => rfl); (case hr => first | (go_simp; done) | (go_simp; rfl)); (case hp => exact (Reps.none _ _)); intro v215 w7 ho8 hb hg_ hnew_; clear hg_ hnew_; (first | rw [← Ny214.out] at ho8 | (simp only [Int.reduceToNat] at ho8; rw [← Ny214.out] at ho8)); have HO216 := Aside0.mk (Kd.R_lower ho8 (vA cq1)); replace HB := uR HB hb; clear hb ho8))
  go_loopg [3, 17] k (fun kq v3 v17 w' => ∃ (x3_1 : List ByteArray) (x17_1 : Int), v17 = .int .i64 x17_1 ∧ Aside0 (impl_FormatLog.l0 kq x3_1 l0 (l0.length : Int) x17_1 = some r) ∧ Aside0 (kq ≤ k) ∧ Aside0 (Kd.R Kd.string 9 w' w.heap.size (fun _ => True) v3 x3_1) ∧ Aside0 (Below w.heap.size w w'))
  case atStart => exact ⟨(y214), (0), cq6, H', ⟨Nat.le_refl _⟩, ⟨by (with_reducible repeat (first | apply Kd.uV | apply Kd.uU | apply Kd.uT)); exact HO216.out⟩, ⟨cq1⟩⟩
  case round =>
    clear H'
    try clear c3
    try clear c4
    try clear c4b0
    try clear c4b1
    try clear c4b2
    obtain ⟨x3_1, x17_1, rfl, HA, HK1, HO_3, HB⟩ := hrel
    cases gk with
    | zero => exact absurd HA.out (by simp [impl_FormatLog.l0])
    | succ k1 =>
      have H := HA.out
      clear HA
      simp only [impl_FormatLog.l0] at H
      by_cases c9 : x17_1 < (l0.length : Int)
      rotate_left
      · rw [if_neg c9] at H
        have c9b0 := decide_eq_false c9
        clear c9
        replace H := Option.bind_eq_some_iff.mp H
        obtain ⟨t224, A240, H⟩ := H
        try dsimp only at H
        have A24 := Aside0.mk A240
        clear A240
        obtain rfl := Option.some.inj H
        obtain ⟨Ao25, co25, eo25⟩ := Kd.R_slice HO_3.out
        subst eo25
        go_wp2_with (first | ((with_reducible refine uM (f := 89) rfl ?_); refine uY (some 34) Tryd.func89 #[.slice Ao25 x3_1.length co25, .string (⟨#[59]⟩ : ByteArray)] ?_; (with_reducible refine (strings_Join.calls _ _ x3_1 (⟨#[59]⟩ : ByteArray) t224 _ ?side1 ?side2 A24.out).mono ?_); (case side1 => exact cq37); (case side2 => exact (Kd.uQ HO_3.out).2.1); rintro e w26 ⟨rfl, hb⟩; refine ⟨_, rfl, ?_⟩; replace HO_3 := Kd.tR HO_3 hb; replace HB := uR HB hb; (try clear hb)))
        go_ret
        exact ⟨cq3, cq1⟩
      rw [if_pos c9] at H
      have c9b0 := decide_eq_true c9
      clear c9
      obtain ⟨c10b0, H⟩ := ifD H
      obtain ⟨c11b0, H⟩ := ifD H
      replace H := Option.bind_eq_some_iff.mp H
      obtain ⟨t219, A120, H⟩ := H
      try dsimp only at H
      have A12 := Aside0.mk A120
      clear A120
      by_cases c13 : t219.size + 1 ≤ 9223372036854775807
      rotate_left
      · rw [if_neg c13] at H
        exact absurd H (by simp)
      rw [if_pos c13] at H
      have c13b0 := eq_true c13
      have c13b1 := decide_eq_true c13
      try have c13b2 : (9223372036854775807 < t219.size + 1) = False := eq_false (Nat.not_lt.2 c13)
      replace H := Option.bind_eq_some_iff.mp H
      obtain ⟨t220, A140, H⟩ := H
      try dsimp only at H
      have A14 := Aside0.mk A140
      clear A140
      by_cases c15 : (t219 ++ (⟨#[58]⟩ : ByteArray)).size + t220.size ≤ 9223372036854775807
      rotate_left
      · rw [if_neg c15] at H
        exact absurd H (by simp)
      rw [if_pos c15] at H
      have c15b0 := eq_true c15
      have c15b1 := decide_eq_true c15
      try have c15b2 : (9223372036854775807 < (t219 ++ (⟨#[58]⟩ : ByteArray)).size + t220.size) = False := eq_false (Nat.not_lt.2 c15)
      have c15b3 : (9223372036854775807 < t219.size + 1 + t220.size) = False := eq_false (Nat.not_lt.2 (by have z_ := c15; (repeat rw [ByteArray.size_append] at z_); exact z_))
      obtain ⟨LMc16, H⟩ := ifL H
      obtain ⟨y221, hy221⟩ : ∃ y_ : List ByteArray, y_ = (x3_1 ++ [(t219 ++ (⟨#[58]⟩ : ByteArray)) ++ t220]) := ⟨_, rfl⟩
      replace H : (impl_FormatLog.l0 k1 y221 l0 (l0.length : Int) (wrap64 (x17_1 + 1))) = some r := rpl hy221 H
      have Ny221 := Aside0.mk hy221
      clear hy221
      have H' := Aside0.mk H
      clear H
      have p217 : 0 ≤ (x17_1 : Int) := of_decide_eq_true uL
      have q217 : x17_1 < (l0.length : Int) := of_decide_eq_true uL
      obtain ⟨ad217, e217, hx217_0, hx217_1, hx217_2, hx217_3, hx217_4, hx217_5, hx217_6⟩ := at_T66 HR0.out x17_1 p217 q217
      cases e217
      replace hx217_0 := (HB.out.cell (vJ w _ hx217_0)).trans hx217_0
      replace hx217_1 := (HB.out.cell (vJ w _ hx217_1)).trans hx217_1
      replace hx217_2 := (HB.out.cell (vJ w _ hx217_2)).trans hx217_2
      replace hx217_3 := (HB.out.cell (vJ w _ hx217_3)).trans hx217_3
      replace hx217_4 := (HB.out.cell (vJ w _ hx217_4)).trans hx217_4
      replace hx217_5 := (HB.out.cell (vJ w _ hx217_5)).trans hx217_5
      replace hx217_6 := (HB.out.cell (vJ w _ hx217_6)).trans hx217_6
      replace p217 := eq_true p217
      replace q217 := eq_true q217
      try go_wp2_with (first | ((with_reducible refine gate_dst (N := 5) rfl ?_); refine bxe 5 #[.int .i64 0, .int .i64 0, .int .i64 0, .int .i64 0, .int .i64 0, .int .i64 0, .int .i64 0] 66 ?_; intro gb218 hg w17 hbox hb; have BK218 := Aside0.mk (hbox); have GW218 := tGe HB hg; have GE218 := tGe HB hg; replace HO_3 := Kd.tR HO_3 hb; replace HB := uR HB hb; clear hb hbox hg; obtain ⟨hcz18_0, hcz18_1, hcz18_2, hcz18_3, hcz18_4, hcz18_5, hcz18_6, hfz18_0, hfz18_1, hfz18_2, hfz18_3, hfz18_4, hfz18_5, hfz18_6⟩ := cz7 BK218))
      have n0_ : Aside0 (Kd.R Kd.string 9 (((((((w17.setCell ⟨gb218, 0, none⟩ (.int .i64 ((rd_T66 l0 x17_1).f0))).setCell ⟨gb218, 1, none⟩ (.int .i64 ((rd_T66 l0 x17_1).f1.f0))).setCell ⟨gb218, 2, none⟩ (.int .i64 ((rd_T66 l0 x17_1).f1.f1))).setCell ⟨gb218, 3, none⟩ (.int .i64 ((rd_T66 l0 x17_1).f1.f2))).setCell ⟨gb218, 4, none⟩ (.int .i64 ((rd_T66 l0 x17_1).f1.f3))).setCell ⟨gb218, 5, none⟩ (.int .i64 ((rd_T66 l0 x17_1).f1.f4))).setCell ⟨gb218, 6, none⟩ (.int .i64 ((rd_T66 l0 x17_1).f1.f5))) w.heap.size (fun _ => True) u3 x3_1) := ⟨by (with_reducible repeat (first | apply Kd.uV | apply Kd.uU | apply Kd.uT)); exact Kd.R_mono (Kd.uX (p := ⟨gb218, 6, none⟩) (Kd.uX (p := ⟨gb218, 5, none⟩) (Kd.uX (p := ⟨gb218, 4, none⟩) (Kd.uX (p := ⟨gb218, 3, none⟩) (Kd.uX (p := ⟨gb218, 2, none⟩) (Kd.uX (p := ⟨gb218, 1, none⟩) (Kd.uX (p := ⟨gb218, 0, none⟩) (Kd.R_types HO_3.out BK218.out (by decide)) (fun _ hk => hk.2) (.int .i64 ((rd_T66 l0 x17_1).f0))) (fun _ hk => hk.2) (.int .i64 ((rd_T66 l0 x17_1).f1.f0))) (fun _ hk => hk.2) (.int .i64 ((rd_T66 l0 x17_1).f1.f1))) (fun _ hk => hk.2) (.int .i64 ((rd_T66 l0 x17_1).f1.f2))) (fun _ hk => hk.2) (.int .i64 ((rd_T66 l0 x17_1).f1.f3))) (fun _ hk => hk.2) (.int .i64 ((rd_T66 l0 x17_1).f1.f4))) (fun _ hk => hk.2) (.int .i64 ((rd_T66 l0 x17_1).f1.f5))) (fun _ hk => trivial)⟩
      have n1_ : Aside0 ((((((((w17.setCell ⟨gb218, 0, none⟩ (.int .i64 ((rd_T66 l0 x17_1).f0))).setCell ⟨gb218, 1, none⟩ (.int .i64 ((rd_T66 l0 x17_1).f1.f0))).setCell ⟨gb218, 2, none⟩ (.int .i64 ((rd_T66 l0 x17_1).f1.f1))).setCell ⟨gb218, 3, none⟩ (.int .i64 ((rd_T66 l0 x17_1).f1.f2))).setCell ⟨gb218, 4, none⟩ (.int .i64 ((rd_T66 l0 x17_1).f1.f3))).setCell ⟨gb218, 5, none⟩ (.int .i64 ((rd_T66 l0 x17_1).f1.f4))).setCell ⟨gb218, 6, none⟩ (.int .i64 ((rd_T66 l0 x17_1).f1.f5))).heap[gb218]? = some (.cells #[.int .i64 ((rd_T66 l0 x17_1).f0), .int .i64 ((rd_T66 l0 x17_1).f1.f0), .int .i64 ((rd_T66 l0 x17_1).f1.f1), .int .i64 ((rd_T66 l0 x17_1).f1.f2), .int .i64 ((rd_T66 l0 x17_1).f1.f3), .int .i64 ((rd_T66 l0 x17_1).f1.f4), .int .i64 ((rd_T66 l0 x17_1).f1.f5)] 66 (0, 0))) := ⟨by (with_reducible repeat (first | refine uD ?_ _ | refine uF ?_ | refine uB ?_ _)); refine uP (cs := #[.int .i64 ((rd_T66 l0 x17_1).f0), .int .i64 ((rd_T66 l0 x17_1).f1.f0), .int .i64 ((rd_T66 l0 x17_1).f1.f1), .int .i64 ((rd_T66 l0 x17_1).f1.f2), .int .i64 ((rd_T66 l0 x17_1).f1.f3), .int .i64 ((rd_T66 l0 x17_1).f1.f4), .int .i64 0]) ?_ 6 _ rfl; (with_reducible repeat (first | refine uD ?_ _ | refine uF ?_ | refine uB ?_ _)); refine uP (cs := #[.int .i64 ((rd_T66 l0 x17_1).f0), .int .i64 ((rd_T66 l0 x17_1).f1.f0), .int .i64 ((rd_T66 l0 x17_1).f1.f1), .int .i64 ((rd_T66 l0 x17_1).f1.f2), .int .i64 ((rd_T66 l0 x17_1).f1.f3), .int .i64 0, .int .i64 0]) ?_ 5 _ rfl; (with_reducible repeat (first | refine uD ?_ _ | refine uF ?_ | refine uB ?_ _)); refine uP (cs := #[.int .i64 ((rd_T66 l0 x17_1).f0), .int .i64 ((rd_T66 l0 x17_1).f1.f0), .int .i64 ((rd_T66 l0 x17_1).f1.f1), .int .i64 ((rd_T66 l0 x17_1).f1.f2), .int .i64 0, .int .i64 0, .int .i64 0]) ?_ 4 _ rfl; (with_reducible repeat (first | refine uD ?_ _ | refine uF ?_ | refine uB ?_ _)); refine uP (cs := #[.int .i64 ((rd_T66 l0 x17_1).f0), .int .i64 ((rd_T66 l0 x17_1).f1.f0), .int .i64 ((rd_T66 l0 x17_1).f1.f1), .int .i64 0, .int .i64 0, .int .i64 0, .int .i64 0]) ?_ 3 _ rfl; (with_reducible repeat (first | refine uD ?_ _ | refine uF ?_ | refine uB ?_ _)); refine uP (cs := #[.int .i64 ((rd_T66 l0 x17_1).f0), .int .i64 ((rd_T66 l0 x17_1).f1.f0), .int .i64 0, .int .i64 0, .int .i64 0, .int .i64 0, .int .i64 0]) ?_ 2 _ rfl; (with_reducible repeat (first | refine uD ?_ _ | refine uF ?_ | refine uB ?_ _)); refine uP (cs := #[.int .i64 ((rd_T66 l0 x17_1).f0), .int .i64 0, .int .i64 0, .int .i64 0, .int .i64 0, .int .i64 0, .int .i64 0]) ?_ 1 _ rfl; (with_reducible repeat (first | refine uD ?_ _ | refine uF ?_ | refine uB ?_ _)); refine uP (cs := #[.int .i64 0, .int .i64 0, .int .i64 0, .int .i64 0, .int .i64 0, .int .i64 0, .int .i64 0]) ?_ 0 _ rfl; (with_reducible repeat (first | refine uD ?_ _ | refine uF ?_ | refine uB ?_ _)); exact BK218.out⟩
      have n2_ : Aside0 (Below w.heap.size w (((((((w17.setCell ⟨gb218, 0, none⟩ (.int .i64 ((rd_T66 l0 x17_1).f0))).setCell ⟨gb218, 1, none⟩ (.int .i64 ((rd_T66 l0 x17_1).f1.f0))).setCell ⟨gb218, 2, none⟩ (.int .i64 ((rd_T66 l0 x17_1).f1.f1))).setCell ⟨gb218, 3, none⟩ (.int .i64 ((rd_T66 l0 x17_1).f1.f2))).setCell ⟨gb218, 4, none⟩ (.int .i64 ((rd_T66 l0 x17_1).f1.f3))).setCell ⟨gb218, 5, none⟩ (.int .i64 ((rd_T66 l0 x17_1).f1.f4))).setCell ⟨gb218, 6, none⟩ (.int .i64 ((rd_T66 l0 x17_1).f1.f5)))) := ⟨cq0⟩
      generalize (((((((w17.setCell ⟨gb218, 0, none⟩ (.int .i64 ((rd_T66 l0 x17_1).f0))).setCell ⟨gb218, 1, none⟩ (.int .i64 ((rd_T66 l0 x17_1).f1.f0))).setCell ⟨gb218, 2, none⟩ (.int .i64 ((rd_T66 l0 x17_1).f1.f1))).setCell ⟨gb218, 3, none⟩ (.int .i64 ((rd_T66 l0 x17_1).f1.f2))).setCell ⟨gb218, 4, none⟩ (.int .i64 ((rd_T66 l0 x17_1).f1.f3))).setCell ⟨gb218, 5, none⟩ (.int .i64 ((rd_T66 l0 x17_1).f1.f4))).setCell ⟨gb218, 6, none⟩ (.int .i64 ((rd_T66 l0 x17_1).f1.f5))) = w19 at n0_ n1_ n2_ ⊢
      have HO_3 := n0_
      have BK218 := n1_
      have HB := n2_
      clear n0_ n1_ n2_
      replace HO_3 := Aside0.mk (Kd.uT HO_3.out)
      replace BK218 := Aside0.mk (uF BK218.out)
      replace HB := Aside0.mk (vB HB.out)
      refine start_ (n := 12) (S := fun w' => w'.cell? ⟨gb218, 0, none⟩ = some (.int .i64 ((rd_T66 l0 x17_1).f0)) ∧ w'.cell? ⟨gb218, 1, none⟩ = some (.int .i64 ((rd_T66 l0 x17_1).f1.f0)) ∧ w'.cell? ⟨gb218, 2, none⟩ = some (.int .i64 ((rd_T66 l0 x17_1).f1.f1)) ∧ w'.cell? ⟨gb218, 3, none⟩ = some (.int .i64 ((rd_T66 l0 x17_1).f1.f2)) ∧ w'.cell? ⟨gb218, 4, none⟩ = some (.int .i64 ((rd_T66 l0 x17_1).f1.f3)) ∧ w'.cell? ⟨gb218, 5, none⟩ = some (.int .i64 ((rd_T66 l0 x17_1).f1.f4)) ∧ w'.cell? ⟨gb218, 6, none⟩ = some (.int .i64 ((rd_T66 l0 x17_1).f1.f5))) (ds := []) tb28 (by kernel_rfl) rfl rfl ⟨(uA BK218.out 0).trans rfl, (uA BK218.out 1).trans rfl, (uA BK218.out 2).trans rfl, (uA BK218.out 3).trans rfl, (uA BK218.out 4).trans rfl, (uA BK218.out 5).trans rfl, (uA BK218.out 6).trans rfl⟩ (fun hHeld => ?_); refine with_tabW impl_FormatLog.tab9 impl_FormatLog.bits9 (fun HT_ HW_ => ?_)
      generalize w19.drew = w20 at HO_3 BK218 HB hHeld ⊢
      refine uJ 0 (some 21) tb29 ?_
      refine uJ 1 (some 22) tb30 ?_
      refine uJ 5 (some 26) #[true, true, false, false, false, true, false, false, false, false, false, false] ?_
      refine takeT 2 (some 23) #[true, true, true, false, false, true, false, false, false, false, false, false] ?_
      refine takeT 6 (some 27) #[true, true, true, false, false, true, true, false, false, false, false, false] ?_
      refine oneT 3 (some 24) #[true, true, true, true, false, true, true, false, false, false, false, false] (fun K hK => ?_)
      refine goesT Tryd.func87 #[.int .i64 ((rd_T66 l0 x17_1).f0)] ?_
      with_reducible refine (impl_FormatInt.calls ((rd_T66 l0 x17_1).f0) t219 _ ?side1 A12.out).mono ?_
      (case side1 => exact cq5)
      rintro e w21 ⟨rfl, hb⟩
      refine ⟨_, rfl, ?_⟩
      replace HO_3 := Kd.tR HO_3 hb
      replace BK218 := tBlk BK218 hb
      replace HB := uR HB hb
      (try clear hb)
      refine hK.out _ _ ⟨(uA BK218.out 0).trans rfl, (uA BK218.out 1).trans rfl, (uA BK218.out 2).trans rfl, (uA BK218.out 3).trans rfl, (uA BK218.out 4).trans rfl, (uA BK218.out 5).trans rfl, (uA BK218.out 6).trans rfl⟩ (fun hHeld => ?_)
      clear hK K
      refine uW ?_
      refine uJ 4 (some 25) #[true, true, true, true, true, true, true, false, false, false, false, false] ?_
      refine oneT 7 (some 28) #[true, true, true, true, true, true, true, true, false, false, false, false] (fun K hK => ?_)
      refine goesT Tryd.func88 #[.agg #[.int .i64 ((rd_T66 l0 x17_1).f1.f0), .int .i64 ((rd_T66 l0 x17_1).f1.f1), .int .i64 ((rd_T66 l0 x17_1).f1.f2), .int .i64 ((rd_T66 l0 x17_1).f1.f3), .int .i64 ((rd_T66 l0 x17_1).f1.f4), .int .i64 ((rd_T66 l0 x17_1).f1.f5)]] ?_
      with_reducible refine (impl_FormatOp.calls ((rd_T66 l0 x17_1).f1.f0) ((rd_T66 l0 x17_1).f1.f1) ((rd_T66 l0 x17_1).f1.f2) ((rd_T66 l0 x17_1).f1.f3) ((rd_T66 l0 x17_1).f1.f4) ((rd_T66 l0 x17_1).f1.f5) t220 _ ?side1 A14.out).mono ?_
      (case side1 => exact cq5)
      rintro e w22 ⟨rfl, hb⟩
      refine ⟨_, rfl, ?_⟩
      replace HO_3 := Kd.tR HO_3 hb
      replace BK218 := tBlk BK218 hb
      replace HB := uR HB hb
      (try clear hb)
      refine hK.out _ _ ⟨(uA BK218.out 0).trans rfl, (uA BK218.out 1).trans rfl, (uA BK218.out 2).trans rfl, (uA BK218.out 3).trans rfl, (uA BK218.out 4).trans rfl, (uA BK218.out 5).trans rfl, (uA BK218.out 6).trans rfl⟩ (fun hHeld => ?_)
      clear hK K
      refine uW ?_
      refine uJ 8 (some 29) tb37 ?_
      refine oneT 9 (some 30) tb44 (fun K hK => ?_)
      refine value_ (w1 := ?_) (v := ?_) (by rfl) rfl ?_ ?_
      rotate_left 2
      · go_simp
        constructor
        · rfl
        rfl
      refine hK.out _ _ ⟨(uA (uB BK218.out _) 0).trans rfl, (uA (uB BK218.out _) 1).trans rfl, (uA (uB BK218.out _) 2).trans rfl, (uA (uB BK218.out _) 3).trans rfl, (uA (uB BK218.out _) 4).trans rfl, (uA (uB BK218.out _) 5).trans rfl, (uA (uB BK218.out _) 6).trans rfl⟩ (fun hHeld => ?_)
      clear hK K
      refine uW ?_
      refine oneT 10 (some 31) tb47 (fun K hK => ?_)
      refine Kd.R_append_step Kd.string (w0 := w) w.heap.size (by rfl) (.tmp 21) (.tmp 30) 37 9 (.string ⟨#[]⟩) 16 rfl Tryd.underlying37 info9 rfl (by decide) (by omega) u3 x3_1 ((t219 ++ (⟨#[58]⟩ : ByteArray)) ++ t220) [.string ((t219 ++ (⟨#[58]⟩ : ByteArray)) ++ t220)] (fun _ => True) (fun _ => False) rfl rfl ?aP (fun _ hk => hk.elim) ?aF ?aO ?aB ?aS ?aL ?_
      (case aP => exact rfl)
      (case aB => exact cq35)
      (case aF => exact (fun _ _ => trivial))
      (case aO => exact (rSR HO_3.out))
      (case aS => exact cq28)
      (case aL => have := LMc16.out; omega)
      intro v222 w23 ho hb hg hat
      rw [← Ny221.out] at ho
      have n0_ := tGr BK218 hg (Kd.uK HO_3.out BK218.out (by decide))
      have n1_ := Aside0.mk (hb)
      have n2_ := Aside0.mk (ho)
      clear BK218
      clear HB
      clear HO_3
      have BK218 := n0_
      have HB := n1_
      have HO223 := n2_
      clear n0_ n1_ n2_
      clear ho hb hg hat
      refine hK.out _ _ ⟨(uA BK218.out 0).trans rfl, (uA BK218.out 1).trans rfl, (uA BK218.out 2).trans rfl, (uA BK218.out 3).trans rfl, (uA BK218.out 4).trans rfl, (uA BK218.out 5).trans rfl, (uA BK218.out 6).trans rfl⟩ (fun hHeld => ?_)
      clear hK K
      refine uW ?_
      refine uJ 11 (some 3) tb53 ?_
      refine done_ (done_of HT_.out (by kernel_rfl)) ?_
      try go_wp2
      go_roundg k1
      case measure => have := HK1.out; omega
      case rel => exact ⟨(y221), (wrap64 (x17_1 + 1)), cq6, H', ⟨by have := HK1.out; omega⟩, ⟨by (with_reducible repeat (first | apply Kd.uV | apply Kd.uU | apply Kd.uT)); exact HO223.out⟩, ⟨cq0⟩⟩

/-! ### strings_explode: function 119 -/
/-- Not told. -/
def strings_explode.f (a0 : ByteArray) (a1 : Int) : Option (List ByteArray) := none
theorem strings_explode.calls (a0 : ByteArray) (a1 : Int) (r : List ByteArray) (w : World) (h : strings_explode.f a0 a1 = some r) :
    Calls Tryd.prog 119 #[.string a0, .int .i64 a1] w fun e w' => ∃ v0_ : Value, e = .returned (v0_) ∧ Kd.R Kd.string 9 w' w.heap.size (fun _ => True) v0_ r ∧ Below w.heap.size w w' := absurd h (by simp [strings_explode.f])

/-! ### strings_Count: function 120 -/
/-- How often a string of one byte stands in another. -/
def strings_Count.f (a0 : ByteArray) (a1 : ByteArray) : Option Int := match a1.data.toList with
  | [c] => some (Lib.countByte a0.data.toList c : Int)
  | _ => none
theorem strings_Count.calls (a0 a1 : ByteArray) (r : Int) (w : World) (h : strings_Count.f a0 a1 = some r) :
    Calls Tryd.prog 120 #[.string a0, .string a1] w fun e w' => e = .returned (.int .i64 r) ∧ Drawn0 w w' := by
  unfold strings_Count.f at h
  obtain ⟨⟨l⟩⟩ := a1
  match l, h with
  | [c], h =>
    have h := Option.some.inj h
    subst h
    refine (Tryd.strings_Count_one a0 c w).mono ?_
    rintro e w' ⟨rfl, rfl⟩
    exact ⟨rfl, ⟨0, rfl⟩⟩
  | [], h => cases h
  | _ :: _ :: _, h => cases h

/-! ### internal_stringslite_Index: function 122 -/
/-- The place of a string of one byte. -/
def internal_stringslite_Index.f (a0 : ByteArray) (a1 : ByteArray) : Option Int := match a1.data.toList with
  | [c] => some (Lib.indexByte a0.data.toList c)
  | _ => none
theorem internal_stringslite_Index.calls (a0 a1 : ByteArray) (r : Int) (w : World) (h : internal_stringslite_Index.f a0 a1 = some r) :
    Calls Tryd.prog 122 #[.string a0, .string a1] w fun e w' => e = .returned (.int .i64 r) ∧ Drawn0 w w' := by
  unfold internal_stringslite_Index.f at h
  obtain ⟨⟨l⟩⟩ := a1
  match l, h with
  | [c], h =>
    have h := Option.some.inj h
    subst h
    refine (Tryd.stringslite_Index_one a0 c w).mono ?_
    rintro e w' ⟨rfl, rfl⟩
    exact ⟨rfl, ⟨0, rfl⟩⟩
  | [], h => cases h
  | _ :: _ :: _, h => cases h

/-! ### strings_Index: function 121 -/
def strings_Index.f (a0 : ByteArray) (a1 : ByteArray) : Option (Int) := (internal_stringslite_Index.f a0 a1).bind fun t225 => (some t225)
set_option maxHeartbeats 8000000 in
set_option maxRecDepth 100000 in
theorem strings_Index.calls (a0 : ByteArray) (a1 : ByteArray) (r : Int) (w : World) (h : strings_Index.f a0 a1 = some r) :
    Calls Tryd.prog 121 #[.string a0, .string a1] w fun e w' => e = .returned (.int .i64 r) ∧ Drawn0 w w' := by
  have H : ((internal_stringslite_Index.f a0 a1).bind fun t225 => (some t225)) = some r := h
  clear h
  replace H := Option.bind_eq_some_iff.mp H
  obtain ⟨t225, A30, H⟩ := H
  try dsimp only at H
  have A3 := Aside0.mk A30
  clear A30
  obtain rfl := Option.some.inj H
  go_enter Tryd.func121, Tryd.ntmps121
  go_wp2_with (first | ((with_reducible refine uM (f := 122) rfl ?_); refine uY (some 7) Tryd.func122 #[.string a0, .string a1] ?_; (with_reducible refine (internal_stringslite_Index.calls a0 a1 t225 _ A3.out).mono ?_); rintro e w' ⟨rfl, ⟨nd, rfl⟩⟩; refine ⟨_, rfl, ?_⟩))
  go_ret
  exact ⟨cq6, cq20⟩

end Go.Proofs.YtcikahnmiiichaaDoor.L
