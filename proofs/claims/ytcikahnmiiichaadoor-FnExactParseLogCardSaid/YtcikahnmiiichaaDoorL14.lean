/- Go functions as Lean functions, and the proof that the code comes to them: written by a program of this session out of the translation. -/
import Derived.Test.YtcikahnmiiichaaDoorL0
import Derived.Test.YtcikahnmiiichaaDoorL10
import Derived.Test.YtcikahnmiiichaaDoorL11
import Derived.Test.YtcikahnmiiichaaDoorL12
import Derived.Test.YtcikahnmiiichaaDoorL13
namespace Go.Proofs.YtcikahnmiiichaaDoor.L
open List renaming setIfInBounds_toArray → vD, set_cons_zero → vE, set_cons_succ → vF
open Go.World renaming block_lt_of_cell? → vJ
open Go.Proofs.YtcikahnmiiichaaDoor.Given
open Go.RowKit Go.Proofs.YtcikahnmiiichaaDoorW.PrintWords Go.Proofs.YtcikahnmiiichaaDoorW.PrintLast Go.Proofs.YtcikahnmiiichaaDoorW.PrintMore
attribute [local go_sem] max2_int min2_int max_two min_two max_three min_three max_four min_four   -- for this text's walks alone
set_option linter.unusedVariables false
set_option linter.unusedSimpArgs false

/-! ### impl_ParseLog: function 33 -/
def impl_ParseLog.l0 : Nat → ByteArray → List (S66) → List ByteArray → Int → Int → Option ((List (S66)) × Bool)
  | 0, _, _, _, _, _ => none
  | k + 1, x0, x4, x17, x18, x19 => if x19 < x18 then (if 0 ≤ x19 then (if x19 < (x17.length : Int) then ((strings_Cut.f (rdOf ByteArray.empty x17 x19) (⟨#[58]⟩ : ByteArray)).bind fun bt282 => ((impl_ParseOp.f k bt282.2.1).bind fun bt285 => ((impl_number.f k bt282.1).bind fun t293 => (if x4.length < 2513169434916 then (impl_ParseLog.l0 k x0 (x4 ++ [(⟨t293, (⟨bt285.1, bt285.2.1, bt285.2.2.1, bt285.2.2.2.1, bt285.2.2.2.2.1, bt285.2.2.2.2.2.1⟩ : S64)⟩ : S66)]) x17 x18 (wrap64 (x19 + 1))) else (none))))) else (none)) else (none)) else (if x0.toList = ([] : List UInt8) then (some (([] : List (S66)), false)) else ((impl_FormatLog.f k x4).bind fun t297 => (if t297.toList = x0.toList then (some (x4, true)) else (some (([] : List (S66)), false)))))
def impl_ParseLog.f (k : Nat) (a0 : ByteArray) : Option ((List (S66)) × Bool) := (some (([] : List (S66)) : List (S66))).bind fun y275 => (if a0.toList = ([110, 111, 110, 101] : List UInt8) then (some (y275, true)) else ((strings_Split.f k a0 (⟨#[59]⟩ : ByteArray)).bind fun t278 => (impl_ParseLog.l0 k a0 y275 t278 (t278.length : Int) 0)))
theorem impl_ParseLog.mono_l : ∀ k, (∀ y0 y1 y2 y3 y4, uE (impl_ParseLog.l0 k y0 y1 y2 y3 y4) (impl_ParseLog.l0 (k + 1) y0 y1 y2 y3 y4))
  | 0 => fun _ _ _ _ _ r h => by simp [impl_ParseLog.l0] at h
  | k + 1 => by
    have ih0 := impl_ParseLog.mono_l k
    intro y0 y1 y2 y3 y4
    unfold impl_ParseLog.l0
    repeat' first
    | (with_reducible exact ih0 _ _ _ _ _)
    | (with_reducible exact impl_FormatLog.mono _ _)
    | (with_reducible exact impl_ParseOp.mono _ _)
    | (with_reducible exact impl_number.mono _ _)
    | (with_reducible exact strings_Split.mono _ _ _)
    | (with_reducible exact uE.refl _)
    | (with_reducible exact uE.none _)
    | (with_reducible refine uE.ite ?_ ?_)
    | (with_reducible refine uE.bind ?_ (fun _ => ?_))
    | exact ih0 _ _ _ _ _
    | exact uE.none _
    | refine uE.ite ?_ ?_
    | refine uE.bind ?_ (fun _ => ?_)
theorem impl_ParseLog.mono : ∀ a0 k, uE (impl_ParseLog.f k a0) (impl_ParseLog.f (k + 1) a0) := by
  intro a0 k
  have ih0 := impl_ParseLog.mono_l k
  unfold impl_ParseLog.f
  repeat' first
      | (with_reducible exact ih0 _ _ _ _ _)
      | (with_reducible exact impl_FormatLog.mono _ _)
      | (with_reducible exact impl_ParseOp.mono _ _)
      | (with_reducible exact impl_number.mono _ _)
      | (with_reducible exact strings_Split.mono _ _ _)
      | (with_reducible exact uE.refl _)
      | (with_reducible exact uE.none _)
      | (with_reducible refine uE.ite ?_ ?_)
      | (with_reducible refine uE.bind ?_ (fun _ => ?_))
      | exact ih0 _ _ _ _ _
      | exact uE.none _
      | refine uE.ite ?_ ?_
      | refine uE.bind ?_ (fun _ => ?_)
def impl_ParseLog.T9 : Bool × List (List Nat × List Nat) := (true, [([], []), ([], []), ([1], [1]), ([], []), ([2, 3], [2, 3]), ([4], [4]), ([0, 5, 2], [0, 5]), ([6, 6, 0, 1, 2, 3, 4, 5, 6], [0, 6])])
def impl_ParseLog.B9 : List Nat := [0, 0, 2, 0, 14, 30, 63, 127]
theorem impl_ParseLog.tab9 : rtab .any (opsOf Tryd.f33 9) = impl_ParseLog.T9 := by kernel_rfl
theorem impl_ParseLog.bits9 : waitsOk impl_ParseLog.T9.2 impl_ParseLog.B9 = true := by kernel_rfl
set_option maxHeartbeats 8000000 in
set_option maxRecDepth 100000 in
theorem impl_ParseLog.calls (k : Nat) (a0 : ByteArray) (r1 : List (S66)) (r2 : Bool) (w : World) (hWF : WF w) (h : impl_ParseLog.f k a0 = some (r1, r2)) :
    Calls Tryd.prog 33 #[.string a0] w fun e w' => ∃ v0_ : Value, e = .returned (.tuple #[v0_, .bool r2]) ∧ Kd.R k66 66 w' w.heap.size (fun _ => True) v0_ r1 ∧ Below w.heap.size w w' := by
  have hu64 := Tryd.underlying64
  have hu66 := Tryd.underlying66
  have HB := Aside0.mk (Below.refl w.heap.size w)
  have H : ((some (([] : List (S66)) : List (S66))).bind fun y275 => (if a0.toList = ([110, 111, 110, 101] : List UInt8) then (some (y275, true)) else ((strings_Split.f k a0 (⟨#[59]⟩ : ByteArray)).bind fun t278 => (impl_ParseLog.l0 k a0 y275 t278 (t278.length : Int) 0)))) = some (r1, r2) := h
  clear h
  obtain ⟨y275, hy275⟩ : ∃ y_ : List (S66), y_ = (([] : List (S66))) := ⟨_, rfl⟩
  replace H : (if a0.toList = ([110, 111, 110, 101] : List UInt8) then (some (y275, true)) else ((strings_Split.f k a0 (⟨#[59]⟩ : ByteArray)).bind fun t278 => (impl_ParseLog.l0 k a0 y275 t278 (t278.length : Int) 0))) = some (r1, r2) := rpl hy275 H
  have Ny275 := Aside0.mk hy275
  clear hy275
  go_enter Tryd.func33, Tryd.ntmps33
  go_wp2_with (first | ((with_reducible refine gate_dst (N := 12) rfl ?_); refine Kd.R_lit k66 _ 66 ?hg (N := 12) ?hd (xs := ([] : List (S66))) (inner := []) (ok := fun _ => True) (okp := fun _ => True) ?hr ?hp (fun _ hk => hk) trivial (Below.refl _ _) (Nat.le_refl _) (by simp) ?_; (case hd => rfl); (case hg => rfl); (case hr => first | (go_simp; done) | (go_simp; rfl)); (case hp => exact (Reps.none _ _)); intro v276 w3 ho4 hb hg_ hnew_; clear hg_ hnew_; (first | rw [← Ny275.out] at ho4 | (simp only [Int.reduceToNat] at ho4; rw [← Ny275.out] at ho4)); have HO277 := Aside0.mk (Kd.R_lower ho4 (vA cq1)); replace HB := uR HB hb; clear hb ho4; refine ?roundEnd))
  case roundEnd =>
  by_cases c2 : a0.toList = ([110, 111, 110, 101] : List UInt8)
  · rw [if_pos c2] at H
    have c2b0 : (a0.toList == ([110, 111, 110, 101] : List UInt8)) = true := beq_iff_eq.mpr c2
    have c2b1 : (a0.toList != ([110, 111, 110, 101] : List UInt8)) = false := bne_eq_false_iff_eq.mpr c2
    clear c2
    simp only [Option.some.injEq, Prod.mk.injEq] at H
    obtain ⟨rfl, rfl⟩ := H
    go_wp2
    go_ret2
    exact ⟨_, cq3, by (with_reducible repeat (first | apply Kd.uV | apply Kd.uU | apply Kd.uT)); exact HO277.out, cq1⟩
  rw [if_neg c2] at H
  have c2b0 : (a0.toList == ([110, 111, 110, 101] : List UInt8)) = false := beq_eq_false_iff_ne.mpr c2
  have c2b1 : (a0.toList != ([110, 111, 110, 101] : List UInt8)) = true := bne_iff_ne.mpr c2
  replace H := Option.bind_eq_some_iff.mp H
  obtain ⟨t278, A50, H⟩ := H
  try dsimp only at H
  have A5 := Aside0.mk A50
  clear A50
  have H' := Aside0.mk H
  clear H
  go_wp2_with (first | ((with_reducible refine uM (f := 69) rfl ?_); refine uY (some 17) Tryd.func69 #[.string a0, .string (⟨#[59]⟩ : ByteArray)] ?_; (with_reducible refine (strings_Split.calls k a0 (⟨#[59]⟩ : ByteArray) t278 _ A5.out).mono ?_); rintro e w8 ⟨v279, rfl, ho0, hb⟩; refine ⟨_, rfl, ?_⟩; have HO280 := Aside0.mk (Kd.R_lower ho0 (vA cq1)); replace HO277 := Kd.tR HO277 hb; replace HB := uR HB hb; (try clear hb); (try clear ho0); obtain ⟨Ao9, co9, eo9⟩ := Kd.R_slice HO280.out; subst eo9))
  go_loopg [4, 19] k (fun kq v4 v19 w' => ∃ (x4_1 : List (S66)) (x19_1 : Int), v19 = .int .i64 x19_1 ∧ Aside0 (impl_ParseLog.l0 kq a0 x4_1 t278 (t278.length : Int) x19_1 = some (r1, r2)) ∧ Aside0 (kq ≤ k) ∧ Aside0 (Kd.R k66 66 w' w.heap.size (fun _ => True) v4 x4_1) ∧ Aside0 (Kd.R Kd.string 9 w' w.heap.size (fun _ => True) (.slice Ao9 t278.length co9) t278) ∧ Aside0 (Below w.heap.size w w'))
  case atStart => exact ⟨(y275), (0), cq6, H', ⟨Nat.le_refl _⟩, ⟨by (with_reducible repeat (first | apply Kd.uV | apply Kd.uU | apply Kd.uT)); exact HO277.out⟩, ⟨by (with_reducible repeat (first | apply Kd.uV | apply Kd.uU | apply Kd.uT)); exact HO280.out⟩, ⟨cq1⟩⟩
  case round =>
    clear H'
    try clear c2
    try clear c2b0
    try clear c2b1
    obtain ⟨x4_1, x19_1, rfl, HA, HK1, HO_4, HO_17, HB⟩ := hrel
    cases gk with
    | zero => exact absurd HA.out (by simp [impl_ParseLog.l0])
    | succ k1 =>
      have H := HA.out
      clear HA
      simp only [impl_ParseLog.l0] at H
      by_cases c10 : x19_1 < (t278.length : Int)
      rotate_left
      · rw [if_neg c10] at H
        have c10b0 := decide_eq_false c10
        clear c10
        by_cases c24 : a0.toList = ([] : List UInt8)
        · rw [if_pos c24] at H
          have c24b0 : (a0.toList == ([] : List UInt8)) = true := beq_iff_eq.mpr c24
          have c24b1 : (a0.toList != ([] : List UInt8)) = false := bne_eq_false_iff_eq.mpr c24
          clear c24
          simp only [Option.some.injEq, Prod.mk.injEq] at H
          obtain ⟨rfl, rfl⟩ := H
          go_wp2
          go_ret2
          exact ⟨_, cq3, cq38, cq1⟩
        rw [if_neg c24] at H
        have c24b0 : (a0.toList == ([] : List UInt8)) = false := beq_eq_false_iff_ne.mpr c24
        have c24b1 : (a0.toList != ([] : List UInt8)) = true := bne_iff_ne.mpr c24
        replace H := Option.bind_eq_some_iff.mp H
        obtain ⟨t297, A250, H⟩ := H
        try dsimp only at H
        have A25 := Aside0.mk A250
        clear A250
        obtain ⟨Ao27, co27, eo27⟩ := Kd.R_slice HO_4.out
        subst eo27
        go_wp2_with (first | (go_at_call 45; (with_reducible refine (impl_FormatLog.calls k1 _ _ x4_1 t297 _ ?side1 ?side2 ?side3 A25.out).mono ?_); (case side1 => repeat (first | exact (Kd.uQ HO_4.out).2.2 | (with_reducible refine Kd.C_alloc ?_ _) | (with_reducible refine Kd.C_drewN ?_ _) | (with_reducible refine Kd.C_drew ?_))); (case side2 => exact (Kd.uQ HO_4.out).2.1); (case side3 => exact cq18); rintro e w28 ⟨rfl, hb⟩; replace HO_4 := Kd.tR HO_4 hb; replace HO_17 := Kd.tR HO_17 hb; replace HB := uR HB hb; (try clear hb); refine ?roundEnd))
        case roundEnd =>
        by_cases c26 : t297.toList = a0.toList
        · rw [if_pos c26] at H
          have c26b0 : (t297.toList == a0.toList) = true := beq_iff_eq.mpr c26
          have c26b1 : (t297.toList != a0.toList) = false := bne_eq_false_iff_eq.mpr c26
          clear c26
          simp only [Option.some.injEq, Prod.mk.injEq] at H
          obtain ⟨rfl, rfl⟩ := H
          go_wp2
          go_ret2
          exact ⟨_, cq3, cq39, cq1⟩
        rw [if_neg c26] at H
        have c26b0 : (t297.toList == a0.toList) = false := beq_eq_false_iff_ne.mpr c26
        have c26b1 : (t297.toList != a0.toList) = true := bne_iff_ne.mpr c26
        simp only [Option.some.injEq, Prod.mk.injEq] at H
        obtain ⟨rfl, rfl⟩ := H
        go_wp2
        go_ret2
        exact ⟨_, cq3, cq38, cq1⟩
      rw [if_pos c10] at H
      have c10b0 := decide_eq_true c10
      clear c10
      obtain ⟨c11b0, H⟩ := ifD H
      obtain ⟨c12b0, H⟩ := ifD H
      replace H := Option.bind_eq_some_iff.mp H
      obtain ⟨⟨t282, t283, t284⟩, A130, H⟩ := H
      try dsimp only at H
      have A13 := Aside0.mk A130
      clear A130
      replace H := Option.bind_eq_some_iff.mp H
      obtain ⟨⟨t285, t286, t287, t288, t289, t290, t291⟩, A140, H⟩ := H
      try dsimp only at H
      have A14 := Aside0.mk A140
      clear A140
      replace H := Option.bind_eq_some_iff.mp H
      obtain ⟨t293, A150, H⟩ := H
      try dsimp only at H
      have A15 := Aside0.mk A150
      clear A150
      obtain ⟨LMc16, H⟩ := ifL H
      obtain ⟨y294, hy294⟩ : ∃ y_ : List (S66), y_ = (x4_1 ++ [(⟨t293, (⟨t285, t286, t287, t288, t289, t290⟩ : S64)⟩ : S66)]) := ⟨_, rfl⟩
      replace H : (impl_ParseLog.l0 k1 a0 y294 t278 (t278.length : Int) (wrap64 (x19_1 + 1))) = some (r1, r2) := rpl hy294 H
      have Ny294 := Aside0.mk hy294
      clear hy294
      have H' := Aside0.mk H
      clear H
      have p281 : 0 ≤ (x19_1 : Int) := of_decide_eq_true uL
      have q281 : x19_1 < (t278.length : Int) := of_decide_eq_true uL
      obtain ⟨ad281, e281, hx281_0⟩ := Kd.at_string (Kd.uQ HO_17.out).2.2 x19_1 p281 q281
      cases e281
      replace p281 := eq_true p281
      replace q281 := eq_true q281
      try go_wp2_with (first | ((with_reducible refine uM (f := 70) rfl ?_); refine uY (some 25) Tryd.func70 #[.string (rdOf ByteArray.empty t278 x19_1), .string (⟨#[58]⟩ : ByteArray)] ?_; (with_reducible refine (strings_Cut.calls (rdOf ByteArray.empty t278 x19_1) (⟨#[58]⟩ : ByteArray) t282 t283 t284 _ A13.out).mono ?_); rintro e w' ⟨rfl, ⟨nd, rfl⟩⟩; refine ⟨_, rfl, ?_⟩; (try (rw [drewN_self wr]; generalize hq_ : World.drewN wr _ = wr; have n0_ : Aside0 (Kd.R Kd.string 9 wr w.heap.size (fun _ => True) (.slice (some ad281) t278.length co9) t278) := ⟨by rw [← hq_]; exact (rSR HO_17.out)⟩; have n1_ : Aside0 (Kd.R k66 66 wr w.heap.size (fun _ => True) u4 x4_1) := ⟨by rw [← hq_]; exact (rSR HO_4.out)⟩; have n2_ : Aside0 (Below w.heap.size w wr) := ⟨cq24⟩; clear HO_17 HO_4 HB hq_; have HO_17 := n0_; have HO_4 := n1_; have HB := n2_; clear n0_ n1_ n2_))) | ((with_reducible refine uM (f := 71) rfl ?_); refine uY (some 31) Tryd.func71 #[.string t283] ?_; (with_reducible refine (impl_ParseOp.calls k1 t283 t285 t286 t287 t288 t289 t290 t291 _ ?side1 A14.out).mono ?_); (case side1 => exact cq18); rintro e w17 ⟨rfl, hb⟩; refine ⟨_, rfl, ?_⟩; replace HO_4 := Kd.tR HO_4 hb; replace HO_17 := Kd.tR HO_17 hb; replace HB := uR HB hb; (try clear hb)) | ((with_reducible refine gate_dst (N := 10) rfl ?_); refine bxe 10 #[.int .i64 0, .int .i64 0, .int .i64 0, .int .i64 0, .int .i64 0, .int .i64 0] 64 ?_; intro gb292 hg w18 hbox hb; have BK292 := Aside0.mk (hbox); have GW292 := tGe HB hg; have GE292 := tGe HB hg; replace HO_4 := Kd.tR HO_4 hb; replace HO_17 := Kd.tR HO_17 hb; replace HB := uR HB hb; clear hb hbox hg; obtain ⟨hcz19_0, hcz19_1, hcz19_2, hcz19_3, hcz19_4, hcz19_5, hfz19_0, hfz19_1, hfz19_2, hfz19_3, hfz19_4, hfz19_5⟩ := cz6 BK292))
      have n0_ : Aside0 (Kd.R k66 66 ((((((w18.setCell ⟨gb292, 0, none⟩ (.int .i64 t285)).setCell ⟨gb292, 1, none⟩ (.int .i64 t286)).setCell ⟨gb292, 2, none⟩ (.int .i64 t287)).setCell ⟨gb292, 3, none⟩ (.int .i64 t288)).setCell ⟨gb292, 4, none⟩ (.int .i64 t289)).setCell ⟨gb292, 5, none⟩ (.int .i64 t290)) w.heap.size (fun _ => True) u4 x4_1) := ⟨by (with_reducible repeat (first | apply Kd.uV | apply Kd.uU | apply Kd.uT)); exact Kd.R_mono (Kd.uX (p := ⟨gb292, 5, none⟩) (Kd.uX (p := ⟨gb292, 4, none⟩) (Kd.uX (p := ⟨gb292, 3, none⟩) (Kd.uX (p := ⟨gb292, 2, none⟩) (Kd.uX (p := ⟨gb292, 1, none⟩) (Kd.uX (p := ⟨gb292, 0, none⟩) (Kd.R_types HO_4.out BK292.out (by decide)) (fun _ hk => hk.2) (.int .i64 t285)) (fun _ hk => hk.2) (.int .i64 t286)) (fun _ hk => hk.2) (.int .i64 t287)) (fun _ hk => hk.2) (.int .i64 t288)) (fun _ hk => hk.2) (.int .i64 t289)) (fun _ hk => hk.2) (.int .i64 t290)) (fun _ hk => trivial)⟩
      have n1_ : Aside0 (Kd.R Kd.string 9 ((((((w18.setCell ⟨gb292, 0, none⟩ (.int .i64 t285)).setCell ⟨gb292, 1, none⟩ (.int .i64 t286)).setCell ⟨gb292, 2, none⟩ (.int .i64 t287)).setCell ⟨gb292, 3, none⟩ (.int .i64 t288)).setCell ⟨gb292, 4, none⟩ (.int .i64 t289)).setCell ⟨gb292, 5, none⟩ (.int .i64 t290)) w.heap.size (fun _ => True) (.slice (some ad281) t278.length co9) t278) := ⟨by (with_reducible repeat (first | apply Kd.uV | apply Kd.uU | apply Kd.uT)); exact Kd.R_mono (Kd.uX (p := ⟨gb292, 5, none⟩) (Kd.uX (p := ⟨gb292, 4, none⟩) (Kd.uX (p := ⟨gb292, 3, none⟩) (Kd.uX (p := ⟨gb292, 2, none⟩) (Kd.uX (p := ⟨gb292, 1, none⟩) (Kd.uX (p := ⟨gb292, 0, none⟩) (Kd.R_types HO_17.out BK292.out (by decide)) (fun _ hk => hk.2) (.int .i64 t285)) (fun _ hk => hk.2) (.int .i64 t286)) (fun _ hk => hk.2) (.int .i64 t287)) (fun _ hk => hk.2) (.int .i64 t288)) (fun _ hk => hk.2) (.int .i64 t289)) (fun _ hk => hk.2) (.int .i64 t290)) (fun _ hk => trivial)⟩
      have n2_ : Aside0 (((((((w18.setCell ⟨gb292, 0, none⟩ (.int .i64 t285)).setCell ⟨gb292, 1, none⟩ (.int .i64 t286)).setCell ⟨gb292, 2, none⟩ (.int .i64 t287)).setCell ⟨gb292, 3, none⟩ (.int .i64 t288)).setCell ⟨gb292, 4, none⟩ (.int .i64 t289)).setCell ⟨gb292, 5, none⟩ (.int .i64 t290)).heap[gb292]? = some (.cells #[.int .i64 t285, .int .i64 t286, .int .i64 t287, .int .i64 t288, .int .i64 t289, .int .i64 t290] 64 (0, 0))) := ⟨by (with_reducible repeat (first | refine uD ?_ _ | refine uF ?_ | refine uB ?_ _)); refine uP (cs := #[.int .i64 t285, .int .i64 t286, .int .i64 t287, .int .i64 t288, .int .i64 t289, .int .i64 0]) ?_ 5 _ rfl; (with_reducible repeat (first | refine uD ?_ _ | refine uF ?_ | refine uB ?_ _)); refine uP (cs := #[.int .i64 t285, .int .i64 t286, .int .i64 t287, .int .i64 t288, .int .i64 0, .int .i64 0]) ?_ 4 _ rfl; (with_reducible repeat (first | refine uD ?_ _ | refine uF ?_ | refine uB ?_ _)); refine uP (cs := #[.int .i64 t285, .int .i64 t286, .int .i64 t287, .int .i64 0, .int .i64 0, .int .i64 0]) ?_ 3 _ rfl; (with_reducible repeat (first | refine uD ?_ _ | refine uF ?_ | refine uB ?_ _)); refine uP (cs := #[.int .i64 t285, .int .i64 t286, .int .i64 0, .int .i64 0, .int .i64 0, .int .i64 0]) ?_ 2 _ rfl; (with_reducible repeat (first | refine uD ?_ _ | refine uF ?_ | refine uB ?_ _)); refine uP (cs := #[.int .i64 t285, .int .i64 0, .int .i64 0, .int .i64 0, .int .i64 0, .int .i64 0]) ?_ 1 _ rfl; (with_reducible repeat (first | refine uD ?_ _ | refine uF ?_ | refine uB ?_ _)); refine uP (cs := #[.int .i64 0, .int .i64 0, .int .i64 0, .int .i64 0, .int .i64 0, .int .i64 0]) ?_ 0 _ rfl; (with_reducible repeat (first | refine uD ?_ _ | refine uF ?_ | refine uB ?_ _)); exact BK292.out⟩
      have n3_ : Aside0 (Below w.heap.size w ((((((w18.setCell ⟨gb292, 0, none⟩ (.int .i64 t285)).setCell ⟨gb292, 1, none⟩ (.int .i64 t286)).setCell ⟨gb292, 2, none⟩ (.int .i64 t287)).setCell ⟨gb292, 3, none⟩ (.int .i64 t288)).setCell ⟨gb292, 4, none⟩ (.int .i64 t289)).setCell ⟨gb292, 5, none⟩ (.int .i64 t290))) := ⟨cq0⟩
      generalize ((((((w18.setCell ⟨gb292, 0, none⟩ (.int .i64 t285)).setCell ⟨gb292, 1, none⟩ (.int .i64 t286)).setCell ⟨gb292, 2, none⟩ (.int .i64 t287)).setCell ⟨gb292, 3, none⟩ (.int .i64 t288)).setCell ⟨gb292, 4, none⟩ (.int .i64 t289)).setCell ⟨gb292, 5, none⟩ (.int .i64 t290)) = w20 at n0_ n1_ n2_ n3_ ⊢
      have HO_4 := n0_
      have HO_17 := n1_
      have BK292 := n2_
      have HB := n3_
      clear n0_ n1_ n2_ n3_
      replace HO_4 := Aside0.mk (Kd.uT HO_4.out)
      replace HO_17 := Aside0.mk (Kd.uT HO_17.out)
      replace BK292 := Aside0.mk (uF BK292.out)
      replace HB := Aside0.mk (vB HB.out)
      refine start_ (n := 8) (S := fun w' => w'.cell? ⟨gb292, 0, none⟩ = some (.int .i64 t285) ∧ w'.cell? ⟨gb292, 1, none⟩ = some (.int .i64 t286) ∧ w'.cell? ⟨gb292, 2, none⟩ = some (.int .i64 t287) ∧ w'.cell? ⟨gb292, 3, none⟩ = some (.int .i64 t288) ∧ w'.cell? ⟨gb292, 4, none⟩ = some (.int .i64 t289) ∧ w'.cell? ⟨gb292, 5, none⟩ = some (.int .i64 t290)) (ds := []) #[false, false, false, false, false, false, false, false] (by kernel_rfl) rfl rfl ⟨(uA BK292.out 0).trans rfl, (uA BK292.out 1).trans rfl, (uA BK292.out 2).trans rfl, (uA BK292.out 3).trans rfl, (uA BK292.out 4).trans rfl, (uA BK292.out 5).trans rfl⟩ (fun hHeld => ?_); refine with_tabW impl_ParseLog.tab9 impl_ParseLog.bits9 (fun HT_ HW_ => ?_)
      generalize w20.drew = w21 at HO_4 HO_17 BK292 HB hHeld ⊢
      refine uJ 0 (some 34) #[true, false, false, false, false, false, false, false] ?_
      refine uJ 1 (some 35) #[true, true, false, false, false, false, false, false] ?_
      refine takeT 3 (some 37) #[true, true, false, true, false, false, false, false] ?_
      refine oneT 2 (some 36) #[true, true, true, true, false, false, false, false] (fun K hK => ?_)
      refine goesT Tryd.func72 #[.string t282] ?_
      with_reducible refine (impl_number.calls k1 t282 t293 _ ?side1 A15.out).mono ?_
      (case side1 => exact cq5)
      rintro e w22 ⟨rfl, hb⟩
      refine ⟨_, rfl, ?_⟩
      replace HO_4 := Kd.tR HO_4 hb
      replace HO_17 := Kd.tR HO_17 hb
      replace BK292 := tBlk BK292 hb
      replace HB := uR HB hb
      (try clear hb)
      refine hK.out _ _ ⟨(uA BK292.out 0).trans rfl, (uA BK292.out 1).trans rfl, (uA BK292.out 2).trans rfl, (uA BK292.out 3).trans rfl, (uA BK292.out 4).trans rfl, (uA BK292.out 5).trans rfl⟩ (fun hHeld => ?_)
      clear hK K
      refine uW ?_
      refine uJ 4 (some 38) #[true, true, true, true, true, false, false, false] ?_
      refine oneT 5 (some 39) #[true, true, true, true, true, true, false, false] (fun K hK => ?_)
      refine value_ (w1 := ?_) (v := ?_) (by rfl) rfl ?_ ?_
      rotate_left 2
      · go_simp
        constructor
        · rfl
        rfl
      refine hK.out _ _ ⟨(uA (uB BK292.out _) 0).trans rfl, (uA (uB BK292.out _) 1).trans rfl, (uA (uB BK292.out _) 2).trans rfl, (uA (uB BK292.out _) 3).trans rfl, (uA (uB BK292.out _) 4).trans rfl, (uA (uB BK292.out _) 5).trans rfl⟩ (fun hHeld => ?_)
      clear hK K
      refine uW ?_
      refine oneT 6 (some 40) #[true, true, true, true, true, true, true, false] (fun K hK => ?_)
      refine Kd.R_append_step k66 (w0 := w) w.heap.size (by rfl) (.tmp 34) (.tmp 39) 24 66 (.agg #[(.int .i64 0), (.int .i64 0), (.int .i64 0), (.int .i64 0), (.int .i64 0), (.int .i64 0), (.int .i64 0)]) 56 rfl Tryd.underlying24 info66 rfl (by decide) (by omega) u4 x4_1 (⟨t293, (⟨t285, t286, t287, t288, t289, t290⟩ : S64)⟩ : S66) [.int .i64 t293, .int .i64 t285, .int .i64 t286, .int .i64 t287, .int .i64 t288, .int .i64 t289, .int .i64 t290] (fun _ => True) (fun _ => False) rfl rfl ?aP (fun _ hk => hk.elim) ?aF ?aO ?aB ?aS ?aL ?_
      (case aP => exact k66_mkM _ _ _ (⟨t293, (⟨t285, t286, t287, t288, t289, t290⟩ : S64)⟩ : S66))
      (case aB => exact cq35)
      (case aF => exact (fun _ _ => trivial))
      (case aO => exact (rSR HO_4.out))
      (case aS => exact cq28)
      (case aL => have := LMc16.out; omega)
      intro v295 w23 ho hb hg hat
      rw [← Ny294.out] at ho
      have n0_ := Aside0.mk (Kd.R_over' (rSR HO_17.out) (Kd.R_typed (rSR HO_4.out)) (by decide) hg)
      have n1_ := tGr BK292 hg (Kd.uK HO_4.out BK292.out (by decide))
      have n2_ := Aside0.mk (hb)
      have n3_ := Aside0.mk (ho)
      clear HO_17
      clear BK292
      clear HB
      clear HO_4
      have HO_17 := n0_
      have BK292 := n1_
      have HB := n2_
      have HO296 := n3_
      clear n0_ n1_ n2_ n3_
      clear ho hb hg hat
      refine hK.out _ _ ⟨(uA BK292.out 0).trans rfl, (uA BK292.out 1).trans rfl, (uA BK292.out 2).trans rfl, (uA BK292.out 3).trans rfl, (uA BK292.out 4).trans rfl, (uA BK292.out 5).trans rfl⟩ (fun hHeld => ?_)
      clear hK K
      refine uW ?_
      refine uJ 7 (some 4) #[true, true, true, true, true, true, true, true] ?_
      refine done_ (done_of HT_.out (by kernel_rfl)) ?_
      try go_wp2
      go_roundg k1
      case measure => have := HK1.out; omega
      case rel => exact ⟨(y294), (wrap64 (x19_1 + 1)), cq6, H', ⟨by have := HK1.out; omega⟩, ⟨by (with_reducible repeat (first | apply Kd.uV | apply Kd.uU | apply Kd.uT)); exact HO296.out⟩, ⟨by (with_reducible repeat (first | apply Kd.uV | apply Kd.uU | apply Kd.uT)); exact HO_17.out⟩, ⟨cq0⟩⟩

/-! ### laws_eqOp: function 104 -/
def laws_eqOp.f (a0_0 : Int) (a0_1 : Int) (a0_2 : Int) (a0_3 : Int) (a0_4 : Int) (a0_5 : Int) (a1_0 : Int) (a1_1 : Int) (a1_2 : Int) (a1_3 : Int) (a1_4 : Int) (a1_5 : Int) : Option (Bool) := if a0_0 = a1_0 then (if a0_1 = a1_1 then (if a0_2 = a1_2 then (if a0_3 = a1_3 then (if a0_4 = a1_4 then (if a0_5 = a1_5 then (some true) else (some false)) else (some false)) else (some false)) else (some false)) else (some false)) else (some false)
set_option maxHeartbeats 8000000 in
set_option maxRecDepth 100000 in
theorem laws_eqOp.calls (a0_0 : Int) (a0_1 : Int) (a0_2 : Int) (a0_3 : Int) (a0_4 : Int) (a0_5 : Int) (a1_0 : Int) (a1_1 : Int) (a1_2 : Int) (a1_3 : Int) (a1_4 : Int) (a1_5 : Int) (r : Bool) (w : World) (h : laws_eqOp.f a0_0 a0_1 a0_2 a0_3 a0_4 a0_5 a1_0 a1_1 a1_2 a1_3 a1_4 a1_5 = some r) :
    Calls Tryd.prog 104 #[.agg #[.int .i64 a0_0, .int .i64 a0_1, .int .i64 a0_2, .int .i64 a0_3, .int .i64 a0_4, .int .i64 a0_5], .agg #[.int .i64 a1_0, .int .i64 a1_1, .int .i64 a1_2, .int .i64 a1_3, .int .i64 a1_4, .int .i64 a1_5]] w fun e w' => e = .returned (.bool r) ∧ Below w.heap.size w w' := by
  have hu64 := Tryd.underlying64
  have HB := Aside0.mk (Below.refl w.heap.size w)
  have H : (if a0_0 = a1_0 then (if a0_1 = a1_1 then (if a0_2 = a1_2 then (if a0_3 = a1_3 then (if a0_4 = a1_4 then (if a0_5 = a1_5 then (some true) else (some false)) else (some false)) else (some false)) else (some false)) else (some false)) else (some false)) = some r := h
  clear h
  go_enter Tryd.func104, Tryd.ntmps104
  go_wp2_with (first | ((with_reducible refine gate_dst (N := 2) rfl ?_); refine bxe 2 #[.int .i64 a0_0, .int .i64 a0_1, .int .i64 a0_2, .int .i64 a0_3, .int .i64 a0_4, .int .i64 a0_5] 64 ?_; intro gb298 hg w39 hbox hb; have BK298 := Aside0.mk (hbox); have GW298 := tGe HB hg; have GE298 := tGe HB hg; replace HB := uR HB hb; clear hb hbox hg) | ((with_reducible refine gate_dst (N := 3) rfl ?_); refine bxe 3 #[.int .i64 a1_0, .int .i64 a1_1, .int .i64 a1_2, .int .i64 a1_3, .int .i64 a1_4, .int .i64 a1_5] 64 ?_; intro gb299 hg w40 hbox hb; have BK299 := Aside0.mk (hbox); have GW299 := tGe HB hg; have GE299 := tGe HB hg; have NB298_299 := tNl BK298 hg; have NB299_298 := tNg BK298 hg; replace BK298 := tBlk BK298 hb; replace HB := uR HB hb; clear hb hbox hg; have hnb41 := NB298_299.out; have hnc41 := NB299_298.out; obtain ⟨hcz42_0, hcz42_1, hcz42_2, hcz42_3, hcz42_4, hcz42_5, hfz42_0, hfz42_1, hfz42_2, hfz42_3, hfz42_4, hfz42_5⟩ := cz6 BK298; obtain ⟨hcz43_0, hcz43_1, hcz43_2, hcz43_3, hcz43_4, hcz43_5, hfz43_0, hfz43_1, hfz43_2, hfz43_3, hfz43_4, hfz43_5⟩ := cz6 BK299; refine ?roundEnd))
  case roundEnd =>
  by_cases c3 : a0_0 = a1_0
  rotate_left
  · rw [if_neg c3] at H
    have c3b0 := beq_eq_false_iff_ne.mpr c3
    have c3b1 := bne_iff_ne.mpr c3
    obtain rfl := Option.some.inj H
    go_wp2
    go_ret
    exact ⟨cq3, cq0⟩
  rw [if_pos c3] at H
  have c3b0 := beq_iff_eq.mpr c3
  have c3b1 := bne_eq_false_iff_eq.mpr c3
  clear c3
  by_cases c4 : a0_1 = a1_1
  rotate_left
  · rw [if_neg c4] at H
    have c4b0 := beq_eq_false_iff_ne.mpr c4
    have c4b1 := bne_iff_ne.mpr c4
    obtain rfl := Option.some.inj H
    go_wp2
    go_ret
    exact ⟨cq3, cq0⟩
  rw [if_pos c4] at H
  have c4b0 := beq_iff_eq.mpr c4
  have c4b1 := bne_eq_false_iff_eq.mpr c4
  clear c4
  by_cases c5 : a0_2 = a1_2
  rotate_left
  · rw [if_neg c5] at H
    have c5b0 := beq_eq_false_iff_ne.mpr c5
    have c5b1 := bne_iff_ne.mpr c5
    obtain rfl := Option.some.inj H
    go_wp2
    go_ret
    exact ⟨cq3, cq0⟩
  rw [if_pos c5] at H
  have c5b0 := beq_iff_eq.mpr c5
  have c5b1 := bne_eq_false_iff_eq.mpr c5
  clear c5
  by_cases c6 : a0_3 = a1_3
  rotate_left
  · rw [if_neg c6] at H
    have c6b0 := beq_eq_false_iff_ne.mpr c6
    have c6b1 := bne_iff_ne.mpr c6
    obtain rfl := Option.some.inj H
    go_wp2
    go_ret
    exact ⟨cq3, cq0⟩
  rw [if_pos c6] at H
  have c6b0 := beq_iff_eq.mpr c6
  have c6b1 := bne_eq_false_iff_eq.mpr c6
  clear c6
  by_cases c7 : a0_4 = a1_4
  rotate_left
  · rw [if_neg c7] at H
    have c7b0 := beq_eq_false_iff_ne.mpr c7
    have c7b1 := bne_iff_ne.mpr c7
    obtain rfl := Option.some.inj H
    go_wp2
    go_ret
    exact ⟨cq3, cq0⟩
  rw [if_pos c7] at H
  have c7b0 := beq_iff_eq.mpr c7
  have c7b1 := bne_eq_false_iff_eq.mpr c7
  clear c7
  by_cases c8 : a0_5 = a1_5
  rotate_left
  · rw [if_neg c8] at H
    have c8b0 := beq_eq_false_iff_ne.mpr c8
    have c8b1 := bne_iff_ne.mpr c8
    obtain rfl := Option.some.inj H
    go_wp2
    go_ret
    exact ⟨cq3, cq0⟩
  rw [if_pos c8] at H
  have c8b0 := beq_iff_eq.mpr c8
  have c8b1 := bne_eq_false_iff_eq.mpr c8
  clear c8
  obtain rfl := Option.some.inj H
  go_wp2
  go_ret
  exact ⟨cq3, cq0⟩

/-! ### laws_eqEntry: function 73 -/
def laws_eqEntry.f (a0_0 : Int) (a0_1 : Int) (a0_2 : Int) (a0_3 : Int) (a0_4 : Int) (a0_5 : Int) (a0_6 : Int) (a1_0 : Int) (a1_1 : Int) (a1_2 : Int) (a1_3 : Int) (a1_4 : Int) (a1_5 : Int) (a1_6 : Int) : Option (Bool) := if a0_0 = a1_0 then ((laws_eqOp.f a0_1 a0_2 a0_3 a0_4 a0_5 a0_6 a1_1 a1_2 a1_3 a1_4 a1_5 a1_6).bind fun t302 => (if t302 = true then (some true) else (some false))) else (some false)
set_option maxHeartbeats 8000000 in
set_option maxRecDepth 100000 in
theorem laws_eqEntry.calls (a0_0 : Int) (a0_1 : Int) (a0_2 : Int) (a0_3 : Int) (a0_4 : Int) (a0_5 : Int) (a0_6 : Int) (a1_0 : Int) (a1_1 : Int) (a1_2 : Int) (a1_3 : Int) (a1_4 : Int) (a1_5 : Int) (a1_6 : Int) (r : Bool) (w : World) (h : laws_eqEntry.f a0_0 a0_1 a0_2 a0_3 a0_4 a0_5 a0_6 a1_0 a1_1 a1_2 a1_3 a1_4 a1_5 a1_6 = some r) :
    Calls Tryd.prog 73 #[.agg #[.int .i64 a0_0, .int .i64 a0_1, .int .i64 a0_2, .int .i64 a0_3, .int .i64 a0_4, .int .i64 a0_5, .int .i64 a0_6], .agg #[.int .i64 a1_0, .int .i64 a1_1, .int .i64 a1_2, .int .i64 a1_3, .int .i64 a1_4, .int .i64 a1_5, .int .i64 a1_6]] w fun e w' => e = .returned (.bool r) ∧ Below w.heap.size w w' := by
  have hu66 := Tryd.underlying66
  have hu64 := Tryd.underlying64
  have HB := Aside0.mk (Below.refl w.heap.size w)
  have H : (if a0_0 = a1_0 then ((laws_eqOp.f a0_1 a0_2 a0_3 a0_4 a0_5 a0_6 a1_1 a1_2 a1_3 a1_4 a1_5 a1_6).bind fun t302 => (if t302 = true then (some true) else (some false))) else (some false)) = some r := h
  clear h
  go_enter Tryd.func73, Tryd.ntmps73
  go_wp2_with (first | ((with_reducible refine gate_dst (N := 2) rfl ?_); refine bxe 2 #[.int .i64 a0_0, .int .i64 a0_1, .int .i64 a0_2, .int .i64 a0_3, .int .i64 a0_4, .int .i64 a0_5, .int .i64 a0_6] 66 ?_; intro gb300 hg w18 hbox hb; have BK300 := Aside0.mk (hbox); have GW300 := tGe HB hg; have GE300 := tGe HB hg; replace HB := uR HB hb; clear hb hbox hg) | ((with_reducible refine gate_dst (N := 3) rfl ?_); refine bxe 3 #[.int .i64 a1_0, .int .i64 a1_1, .int .i64 a1_2, .int .i64 a1_3, .int .i64 a1_4, .int .i64 a1_5, .int .i64 a1_6] 66 ?_; intro gb301 hg w19 hbox hb; have BK301 := Aside0.mk (hbox); have GW301 := tGe HB hg; have GE301 := tGe HB hg; have NB300_301 := tNl BK300 hg; have NB301_300 := tNg BK300 hg; replace BK300 := tBlk BK300 hb; replace HB := uR HB hb; clear hb hbox hg; have hnb20 := NB300_301.out; have hnc20 := NB301_300.out; obtain ⟨hcz21_0, hcz21_1, hcz21_2, hcz21_3, hcz21_4, hcz21_5, hcz21_6, hfz21_0, hfz21_1, hfz21_2, hfz21_3, hfz21_4, hfz21_5, hfz21_6⟩ := cz7 BK300; obtain ⟨hcz22_0, hcz22_1, hcz22_2, hcz22_3, hcz22_4, hcz22_5, hcz22_6, hfz22_0, hfz22_1, hfz22_2, hfz22_3, hfz22_4, hfz22_5, hfz22_6⟩ := cz7 BK301; refine ?roundEnd))
  case roundEnd =>
  by_cases c3 : a0_0 = a1_0
  rotate_left
  · rw [if_neg c3] at H
    have c3b0 := beq_eq_false_iff_ne.mpr c3
    have c3b1 := bne_iff_ne.mpr c3
    obtain rfl := Option.some.inj H
    go_wp2
    go_ret
    exact ⟨cq3, cq0⟩
  rw [if_pos c3] at H
  have c3b0 := beq_iff_eq.mpr c3
  have c3b1 := bne_eq_false_iff_eq.mpr c3
  clear c3
  replace H := Option.bind_eq_some_iff.mp H
  obtain ⟨t302, A40, H⟩ := H
  try dsimp only at H
  have A4 := Aside0.mk A40
  clear A40
  by_cases c5 : t302 = true
  · subst c5
    try rw [if_pos rfl] at H
    obtain rfl := Option.some.inj H
    go_wp2_with (first | ((with_reducible refine uM (f := 104) rfl ?_); refine uY (some 14) Tryd.func104 #[.agg #[.int .i64 a0_1, .int .i64 a0_2, .int .i64 a0_3, .int .i64 a0_4, .int .i64 a0_5, .int .i64 a0_6], .agg #[.int .i64 a1_1, .int .i64 a1_2, .int .i64 a1_3, .int .i64 a1_4, .int .i64 a1_5, .int .i64 a1_6]] ?_; (with_reducible refine (laws_eqOp.calls a0_1 a0_2 a0_3 a0_4 a0_5 a0_6 a1_1 a1_2 a1_3 a1_4 a1_5 a1_6 true _ A4.out).mono ?_); rintro e w11 ⟨rfl, hb⟩; refine ⟨_, rfl, ?_⟩; replace BK300 := tBlk BK300 hb; replace BK301 := tBlk BK301 hb; replace HB := uR HB hb; (try clear hb)))
    go_ret
    exact ⟨cq3, cq0⟩
  replace c5 := Bool.eq_false_iff.mpr c5
  subst c5
  try rw [if_neg (show ¬ (false = true) by decide)] at H
  obtain rfl := Option.some.inj H
  go_wp2_with (first | ((with_reducible refine uM (f := 104) rfl ?_); refine uY (some 14) Tryd.func104 #[.agg #[.int .i64 a0_1, .int .i64 a0_2, .int .i64 a0_3, .int .i64 a0_4, .int .i64 a0_5, .int .i64 a0_6], .agg #[.int .i64 a1_1, .int .i64 a1_2, .int .i64 a1_3, .int .i64 a1_4, .int .i64 a1_5, .int .i64 a1_6]] ?_; (with_reducible refine (laws_eqOp.calls a0_1 a0_2 a0_3 a0_4 a0_5 a0_6 a1_1 a1_2 a1_3 a1_4 a1_5 a1_6 false _ A4.out).mono ?_); rintro e w17 ⟨rfl, hb⟩; refine ⟨_, rfl, ?_⟩; replace BK300 := tBlk BK300 hb; replace BK301 := tBlk BK301 hb; replace HB := uR HB hb; (try clear hb)))
  go_ret
  exact ⟨cq3, cq0⟩

end Go.Proofs.YtcikahnmiiichaaDoor.L
