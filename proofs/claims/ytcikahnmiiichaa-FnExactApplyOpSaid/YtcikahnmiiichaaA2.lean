/- Go functions as Lean functions, and the proof that the code comes to them: written by a program of this session out of the translation. -/
import Derived.Test.YtcikahnmiiichaaA0
namespace Go.Proofs.Ytcikahnmiiichaa.A
open Go.RowKit Go.Proofs.YtcikahnmiiichaaW.PrintWords Go.Proofs.YtcikahnmiiichaaW.PrintLast Go.Proofs.YtcikahnmiiichaaW.PrintMore
attribute [local go_sem] max2_int min2_int max_two min_two max_three min_three max_four min_four   -- for this text's walks alone
set_option linter.unusedVariables false
set_option linter.unusedSimpArgs false

/-! ### spec_l4Copy: function 44 -/
def spec_l4Copy.f (l0_0 : List Int) (l0_1 : List (S49)) : Option (List Int × (List (S49))) := (some (([] : List Int) : List Int)).bind fun y140 => (if y140.length + l0_0.length < 17592186044416 then ((some (([] : List (S49)) : List (S49))).bind fun y146 => (if y146.length + l0_1.length < 4398046511104 then (some ((y140 ++ l0_0), (y146 ++ l0_1))) else (none))) else (none))
def spec_l4Copy.T1 : Bool × List (List Nat × List Nat) := (true, [([], []), ([], []), ([1], [1]), ([0, 2], [0, 2]), ([], []), ([], []), ([5], [5]), ([4, 6, 3], [4, 6]), ([3, 7], [3, 7]), ([8, 7, 0, 1, 2, 3, 4, 5, 6, 7, 8], [8])])
def spec_l4Copy.B1 : List Nat := [0, 0, 2, 7, 0, 0, 32, 127, 255, 511]
theorem spec_l4Copy.tab1 : rtab .any (opsOf Try.f44 1) = spec_l4Copy.T1 := by kernel_rfl
theorem spec_l4Copy.bits1 : waitsOk spec_l4Copy.T1.2 spec_l4Copy.B1 = true := by kernel_rfl
set_option maxHeartbeats 8000000 in
set_option maxRecDepth 100000 in
theorem spec_l4Copy.calls (A0_0 : Option Addr) (c0_0 : Nat) (l0_0 : List Int) (A0_1 : Option Addr) (c0_1 : Nat) (l0_1 : List (S49)) (r1 : List Int) (r2 : List (S49)) (w : World) (hr0_0 : Kd.C (Kd.int .i64) w A0_0 l0_0.length l0_0) (hc0_0 : l0_0.length ≤ c0_0) (hr0_1 : Kd.C k49 w A0_1 l0_1.length l0_1) (hc0_1 : l0_1.length ≤ c0_1) (h : spec_l4Copy.f l0_0 l0_1 = some (r1, r2)) :
    Calls Try.prog 44 #[.agg #[.slice A0_0 l0_0.length c0_0, .slice A0_1 l0_1.length c0_1]] w fun e w' => ∃ v0_ v1_ : Value, e = .returned (.agg #[v0_, v1_]) ∧ Kd.R (Kd.int .i64) 3 w' w.heap.size (fun _ => True) v0_ r1 ∧ Kd.R k49 49 w' w.heap.size (fun _ => True) v1_ r2 ∧ Below w.heap.size w w' := by
  have hu31 := Try.underlying31
  have HR0_0 := Aside0.mk hr0_0
  have HC0_0 := Aside0.mk hc0_0
  clear hr0_0 hc0_0
  have HR0_1 := Aside0.mk hr0_1
  have HC0_1 := Aside0.mk hc0_1
  clear hr0_1 hc0_1
  have HB := Aside0.mk (Below.refl w.heap.size w)
  have H : ((some (([] : List Int) : List Int)).bind fun y140 => (if y140.length + l0_0.length < 17592186044416 then ((some (([] : List (S49)) : List (S49))).bind fun y146 => (if y146.length + l0_1.length < 4398046511104 then (some ((y140 ++ l0_0), (y146 ++ l0_1))) else (none))) else (none))) = some (r1, r2) := h
  clear h
  obtain ⟨y140, hy140⟩ : ∃ y_ : List Int, y_ = (([] : List Int)) := ⟨_, rfl⟩
  replace H : (if y140.length + l0_0.length < 17592186044416 then ((some (([] : List (S49)) : List (S49))).bind fun y146 => (if y146.length + l0_1.length < 4398046511104 then (some ((y140 ++ l0_0), (y146 ++ l0_1))) else (none))) else (none)) = some (r1, r2) := rpl hy140 H
  have Ny140 := Aside0.mk hy140
  clear hy140
  obtain ⟨LMc2, H⟩ := ifL H
  obtain ⟨y143, hy143⟩ : ∃ y_ : List Int, y_ = (y140 ++ l0_0) := ⟨_, rfl⟩
  replace H : ((some (([] : List (S49)) : List (S49))).bind fun y146 => (if y146.length + l0_1.length < 4398046511104 then (some (y143, (y146 ++ l0_1))) else (none))) = some (r1, r2) := rpl hy143 H
  have Ny143 := Aside0.mk hy143
  clear hy143
  obtain ⟨y146, hy146⟩ : ∃ y_ : List (S49), y_ = (([] : List (S49))) := ⟨_, rfl⟩
  replace H : (if y146.length + l0_1.length < 4398046511104 then (some (y143, (y146 ++ l0_1))) else (none)) = some (r1, r2) := rpl hy146 H
  have Ny146 := Aside0.mk hy146
  clear hy146
  obtain ⟨LMc3, H⟩ := ifL H
  obtain ⟨y149, hy149⟩ : ∃ y_ : List (S49), y_ = (y146 ++ l0_1) := ⟨_, rfl⟩
  replace H : (some (y143, y149)) = some (r1, r2) := rpl hy149 H
  have Ny149 := Aside0.mk hy149
  clear hy149
  simp only [Option.some.injEq, Prod.mk.injEq] at H
  obtain ⟨rfl, rfl⟩ := H
  go_enter Try.func44, Try.ntmps44
  try go_wp2_with (first | ((with_reducible refine gate_dst (N := 1) rfl ?_); refine bxe 1 #[.slice A0_0 l0_0.length c0_0, .slice A0_1 l0_1.length c0_1] 31 ?_; intro gb138 hg w4 hbox hb; have BK138 := Aside0.mk (hbox); have GW138 := tGe HB hg; have GE138 := tGe HB hg; replace HB := tBel HB hb; clear hb hbox hg) | ((with_reducible refine gate_dst (N := 2) rfl ?_); refine bxe 2 #[.slice none 0 0, .slice none 0 0] 31 ?_; intro gb139 hg w5 hbox hb; have BK139 := Aside0.mk (hbox); have GW139 := tGe HB hg; have GE139 := tGe HB hg; have NB138_139 := tNl BK138 hg; have NB139_138 := tNg BK138 hg; replace BK138 := tBlk BK138 hb; replace HB := tBel HB hb; clear hb hbox hg))
  replace BK138 := Aside0.mk (blk_drew BK138.out)
  replace BK139 := Aside0.mk (blk_drew BK139.out)
  replace HB := Aside0.mk (below_drew1 HB.out)
  refine start_ (n := 10) (S := fun w' => w'.cell? ⟨gb138, 0, none⟩ = some (.slice A0_0 l0_0.length c0_0) ∧ w'.cell? ⟨gb138, 1, none⟩ = some (.slice A0_1 l0_1.length c0_1)) (ds := []) #[false, false, false, false, false, false, false, false, false, false] (by kernel_rfl) rfl rfl ⟨(blk_cell BK138.out 0).trans rfl, (blk_cell BK138.out 1).trans rfl⟩ (fun hHeld => ?_); refine with_tabW spec_l4Copy.tab1 spec_l4Copy.bits1 (fun HT_ HW_ => ?_)
  generalize w5.drew = w6 at BK138 BK139 HB hHeld ⊢
  refine pureT 1 (some 4) #[false, true, false, false, false, false, false, false, false, false] ?_
  refine pureT 5 (some 8) #[false, true, false, false, false, true, false, false, false, false] ?_
  refine takeT 2 (some 5) #[false, true, true, false, false, true, false, false, false, false] ?_
  refine takeT 6 (some 9) #[false, true, true, false, false, true, true, false, false, false] ?_
  refine join_ (σ := Value × Value × Value) 3 #[true, true, true, true, true, true, true, false, false, false] (fun s_ => [(3, s_.1), (6, s_.2.1), (7, s_.2.2)]) (fun s_ w' => (w'.cell? ⟨gb138, 0, none⟩ = some (.slice A0_0 l0_0.length c0_0) ∧ w'.cell? ⟨gb138, 1, none⟩ = some (.slice A0_1 l0_1.length c0_1)) ∧ (Kd.R (Kd.int .i64) 3 w' w.heap.size (fun _ => True) s_.2.1 y143) ∧ (Kd.R k49 49 w' w.heap.size (fun _ => True) s_.2.2 y146) ∧ (w'.heap[gb138]? = some (.cells #[.slice A0_0 l0_0.length c0_0, .slice A0_1 l0_1.length c0_1] 31 (0, 0))) ∧ (w'.heap[gb139]? = some (.cells #[.slice none 0 0, .slice none 0 0] 31 (0, 0))) ∧ (Below w.heap.size w w')) ?_ ?_
  rotate_left
  · intro hCont
    refine two_ (i := 0) (j := 4) (Ni := some 3) (Nj := some 7) #[true, true, true, false, false, true, true, false, false, false] #[false, true, true, false, true, true, true, false, false, false] rfl rfl rfl rfl (two_of HT_.out (by kernel_rfl)) (by decide) (by decide) (fun K hK => ?_) (fun K hK => ?_)
    · skip
      refine Kd.R_lit_step (Kd.int .i64) _ 3 ?hg (N := 3) ?hd (xs := ([] : List Int)) (inner := []) (ok := fun _ => True) (okp := fun _ => True) ?hr ?hp (fun _ hk => hk) trivial (Below.refl _ _) (Nat.le_refl _) (by simp) ?_; (case hd => rfl); (case hg => rfl); (case hr => first | (go_simp; done) | (go_simp; rfl)); (case hp => exact (Reps.none _ _))
      intro v141 w7 ho8 hb hg_ hnew_
      clear hg_ hnew_
      (first | rw [← Ny140.out] at ho8 | (simp only [Int.reduceToNat] at ho8; rw [← Ny140.out] at ho8))
      have HO142 := Aside0.mk (Kd.R_lower ho8 (below_size cq0))
      replace BK138 := tBlk BK138 hb
      replace BK139 := tBlk BK139 hb
      replace HB := tBel HB hb
      clear hb ho8
      refine hK.out _ _ ⟨(blk_cell BK138.out 0).trans rfl, (blk_cell BK138.out 1).trans rfl⟩ (fun hHeld => ?_)
      clear hK K
      refine normT (some 3) ?_
      refine two_ (i := 3) (j := 4) (Ni := some 6) (Nj := some 7) #[true, true, true, true, false, true, true, false, false, false] #[true, true, true, false, true, true, true, false, false, false] rfl rfl rfl rfl (two_of HT_.out (by kernel_rfl)) (by decide) (by decide) (fun K hK => ?_) (fun K hK => ?_)
      · skip
        refine Kd.R_append_rows_step (Kd.int .i64) (w0 := w) w.heap.size (by rfl) (.tmp 3) (.tmp 5) 22 3 (.int .i64 0) 8 rfl Try.underlying22 info3 rfl (by decide) (by omega) v141 y140 l0_0 _ _ _ (fun _ => True) (fun _ => False) rfl rfl ?aO ?aR (fun _ _ h => h) (fun _ h => h.elim) ?aF ?aB ?aS ?aL ?_
        (case aR => exact cq7)
        (case aB => exact cq16)
        (case aF => exact (fun _ _ => trivial))
        (case aO => exact (rSR HO142.out))
        (case aS => exact cq15)
        (case aL => have := LMc2.out; omega)
        intro v144 w9 ho hb hg hat
        rw [← Ny143.out] at ho
        have n0_ := tGr BK138 hg (Kd.R_ne HO142.out BK138.out (by decide))
        have n1_ := tGr BK139 hg (Kd.R_ne HO142.out BK139.out (by decide))
        have n2_ := Aside0.mk (hb)
        have n3_ := Aside0.mk (ho)
        clear BK138
        clear BK139
        clear HB
        clear HO142
        have BK138 := n0_
        have BK139 := n1_
        have HB := n2_
        have HO145 := n3_
        clear n0_ n1_ n2_ n3_
        clear ho hb hg hat
        refine hK.out _ _ ⟨(blk_cell BK138.out 0).trans rfl, (blk_cell BK138.out 1).trans rfl⟩ (fun hHeld => ?_)
        clear hK K
        refine normT (some 6) ?_
        refine oneT 4 (some 7) #[true, true, true, true, true, true, true, false, false, false] (fun K hK => ?_)
        refine Kd.R_lit_step k49 _ 49 ?hg (N := 7) ?hd (xs := ([] : List (S49))) (inner := []) (ok := fun _ => True) (okp := fun _ => True) ?hr ?hp (fun _ hk => hk) trivial (Below.refl _ _) (Nat.le_refl _) (by simp) ?_; (case hd => rfl); (case hg => rfl); (case hr => first | (go_simp; done) | (go_simp; rfl)); (case hp => exact (Reps.none _ _))
        intro v147 w10 ho11 hb hg_ hnew_
        clear hg_ hnew_
        (first | rw [← Ny146.out] at ho11 | (simp only [Int.reduceToNat] at ho11; rw [← Ny146.out] at ho11))
        have HO148 := Aside0.mk (Kd.R_lower ho11 (below_size cq0))
        replace HO145 := Kd.tR HO145 hb
        replace BK138 := tBlk BK138 hb
        replace BK139 := tBlk BK139 hb
        replace HB := tBel HB hb
        clear hb ho11
        refine hK.out _ _ ⟨(blk_cell BK138.out 0).trans rfl, (blk_cell BK138.out 1).trans rfl⟩ (fun hHeld => ?_)
        clear hK K
        refine normT (some 7) ?_
        exact norm_ cq38 (hCont (v141, v144, v147) _ ⟨hHeld, (rSR HO145.out), (rSR HO148.out), (rSB BK138.out), (rSB BK139.out), cq0⟩)
      skip
      refine Kd.R_lit_step k49 _ 49 ?hg (N := 7) ?hd (xs := ([] : List (S49))) (inner := []) (ok := fun _ => True) (okp := fun _ => True) ?hr ?hp (fun _ hk => hk) trivial (Below.refl _ _) (Nat.le_refl _) (by simp) ?_; (case hd => rfl); (case hg => rfl); (case hr => first | (go_simp; done) | (go_simp; rfl)); (case hp => exact (Reps.none _ _))
      intro v147 w9 ho10 hb hg_ hnew_
      clear hg_ hnew_
      (first | rw [← Ny146.out] at ho10 | (simp only [Int.reduceToNat] at ho10; rw [← Ny146.out] at ho10))
      have HO148 := Aside0.mk (Kd.R_lower ho10 (below_size cq0))
      replace HO142 := Kd.tR HO142 hb
      replace BK138 := tBlk BK138 hb
      replace BK139 := tBlk BK139 hb
      replace HB := tBel HB hb
      clear hb ho10
      refine hK.out _ _ ⟨(blk_cell BK138.out 0).trans rfl, (blk_cell BK138.out 1).trans rfl⟩ (fun hHeld => ?_)
      clear hK K
      refine normT (some 7) ?_
      refine oneT 3 (some 6) #[true, true, true, true, true, true, true, false, false, false] (fun K hK => ?_)
      refine Kd.R_append_rows_step (Kd.int .i64) (w0 := w) w.heap.size (by rfl) (.tmp 3) (.tmp 5) 22 3 (.int .i64 0) 8 rfl Try.underlying22 info3 rfl (by decide) (by omega) v141 y140 l0_0 _ _ _ (fun _ => True) (fun _ => False) rfl rfl ?aO ?aR (fun _ _ h => h) (fun _ h => h.elim) ?aF ?aB ?aS ?aL ?_
      (case aR => exact cq7)
      (case aB => exact cq16)
      (case aF => exact (fun _ _ => trivial))
      (case aO => exact (rSR HO142.out))
      (case aS => exact cq15)
      (case aL => have := LMc2.out; omega)
      intro v144 w11 ho hb hg hat
      rw [← Ny143.out] at ho
      have n0_ := tGr BK138 hg (Kd.R_ne HO142.out BK138.out (by decide))
      have n1_ := tGr BK139 hg (Kd.R_ne HO142.out BK139.out (by decide))
      have n2_ := Aside0.mk (Kd.R_over' (rSR HO148.out) (Kd.R_typed (rSR HO142.out)) (by decide) hg)
      have n3_ := Aside0.mk (hb)
      have n4_ := Aside0.mk (ho)
      clear BK138
      clear BK139
      clear HO148
      clear HB
      clear HO142
      have BK138 := n0_
      have BK139 := n1_
      have HO148 := n2_
      have HB := n3_
      have HO145 := n4_
      clear n0_ n1_ n2_ n3_ n4_
      clear ho hb hg hat
      refine hK.out _ _ ⟨(blk_cell BK138.out 0).trans rfl, (blk_cell BK138.out 1).trans rfl⟩ (fun hHeld => ?_)
      clear hK K
      refine normT (some 6) ?_
      exact norm_ cq38 (hCont (v141, v144, v147) _ ⟨hHeld, (rSR HO145.out), (rSR HO148.out), (rSB BK138.out), (rSB BK139.out), cq0⟩)
    skip
    refine Kd.R_lit_step k49 _ 49 ?hg (N := 7) ?hd (xs := ([] : List (S49))) (inner := []) (ok := fun _ => True) (okp := fun _ => True) ?hr ?hp (fun _ hk => hk) trivial (Below.refl _ _) (Nat.le_refl _) (by simp) ?_; (case hd => rfl); (case hg => rfl); (case hr => first | (go_simp; done) | (go_simp; rfl)); (case hp => exact (Reps.none _ _))
    intro v147 w7 ho8 hb hg_ hnew_
    clear hg_ hnew_
    (first | rw [← Ny146.out] at ho8 | (simp only [Int.reduceToNat] at ho8; rw [← Ny146.out] at ho8))
    have HO148 := Aside0.mk (Kd.R_lower ho8 (below_size cq0))
    replace BK138 := tBlk BK138 hb
    replace BK139 := tBlk BK139 hb
    replace HB := tBel HB hb
    clear hb ho8
    refine hK.out _ _ ⟨(blk_cell BK138.out 0).trans rfl, (blk_cell BK138.out 1).trans rfl⟩ (fun hHeld => ?_)
    clear hK K
    refine normT (some 7) ?_
    refine oneT 0 (some 3) #[true, true, true, false, true, true, true, false, false, false] (fun K hK => ?_)
    refine Kd.R_lit_step (Kd.int .i64) _ 3 ?hg (N := 3) ?hd (xs := ([] : List Int)) (inner := []) (ok := fun _ => True) (okp := fun _ => True) ?hr ?hp (fun _ hk => hk) trivial (Below.refl _ _) (Nat.le_refl _) (by simp) ?_; (case hd => rfl); (case hg => rfl); (case hr => first | (go_simp; done) | (go_simp; rfl)); (case hp => exact (Reps.none _ _))
    intro v141 w9 ho10 hb hg_ hnew_
    clear hg_ hnew_
    (first | rw [← Ny140.out] at ho10 | (simp only [Int.reduceToNat] at ho10; rw [← Ny140.out] at ho10))
    have HO142 := Aside0.mk (Kd.R_lower ho10 (below_size cq0))
    replace HO148 := Kd.tR HO148 hb
    replace BK138 := tBlk BK138 hb
    replace BK139 := tBlk BK139 hb
    replace HB := tBel HB hb
    clear hb ho10
    refine hK.out _ _ ⟨(blk_cell BK138.out 0).trans rfl, (blk_cell BK138.out 1).trans rfl⟩ (fun hHeld => ?_)
    clear hK K
    refine normT (some 3) ?_
    refine oneT 3 (some 6) #[true, true, true, true, true, true, true, false, false, false] (fun K hK => ?_)
    refine Kd.R_append_rows_step (Kd.int .i64) (w0 := w) w.heap.size (by rfl) (.tmp 3) (.tmp 5) 22 3 (.int .i64 0) 8 rfl Try.underlying22 info3 rfl (by decide) (by omega) v141 y140 l0_0 _ _ _ (fun _ => True) (fun _ => False) rfl rfl ?aO ?aR (fun _ _ h => h) (fun _ h => h.elim) ?aF ?aB ?aS ?aL ?_
    (case aR => exact cq7)
    (case aB => exact cq16)
    (case aF => exact (fun _ _ => trivial))
    (case aO => exact (rSR HO142.out))
    (case aS => exact cq15)
    (case aL => have := LMc2.out; omega)
    intro v144 w11 ho hb hg hat
    rw [← Ny143.out] at ho
    have n0_ := tGr BK138 hg (Kd.R_ne HO142.out BK138.out (by decide))
    have n1_ := tGr BK139 hg (Kd.R_ne HO142.out BK139.out (by decide))
    have n2_ := Aside0.mk (Kd.R_over' (rSR HO148.out) (Kd.R_typed (rSR HO142.out)) (by decide) hg)
    have n3_ := Aside0.mk (hb)
    have n4_ := Aside0.mk (ho)
    clear BK138
    clear BK139
    clear HO148
    clear HB
    clear HO142
    have BK138 := n0_
    have BK139 := n1_
    have HO148 := n2_
    have HB := n3_
    have HO145 := n4_
    clear n0_ n1_ n2_ n3_ n4_
    clear ho hb hg hat
    refine hK.out _ _ ⟨(blk_cell BK138.out 0).trans rfl, (blk_cell BK138.out 1).trans rfl⟩ (fun hHeld => ?_)
    clear hK K
    refine normT (some 6) ?_
    exact norm_ cq38 (hCont (v141, v144, v147) _ ⟨hHeld, (rSR HO145.out), (rSR HO148.out), (rSB BK138.out), (rSB BK139.out), cq0⟩)
  rintro ⟨v141, v144, v147⟩ w12 ⟨hS_, h0_, h1_, h2_, h3_, h4_⟩
  have n0_ : Aside0 (Kd.R (Kd.int .i64) 3 w12 w.heap.size (fun _ => True) v144 y143) := ⟨h0_⟩
  have n1_ : Aside0 (Kd.R k49 49 w12 w.heap.size (fun _ => True) v147 y146) := ⟨h1_⟩
  have n2_ : Aside0 (w12.heap[gb138]? = some (.cells #[.slice A0_0 l0_0.length c0_0, .slice A0_1 l0_1.length c0_1] 31 (0, 0))) := ⟨h2_⟩
  have n3_ : Aside0 (w12.heap[gb139]? = some (.cells #[.slice none 0 0, .slice none 0 0] 31 (0, 0))) := ⟨h3_⟩
  have n4_ : Aside0 (Below w.heap.size w w12) := ⟨h4_⟩
  clear BK138
  clear BK139
  clear HB
  clear h0_ h1_ h2_ h3_ h4_
  have HO145 := n0_
  have HO148 := n1_
  have BK138 := n2_
  have BK139 := n3_
  have HB := n4_
  clear n0_ n1_ n2_ n3_ n4_
  have hHeld : w12.cell? ⟨gb138, 0, none⟩ = some (.slice A0_0 l0_0.length c0_0) ∧ w12.cell? ⟨gb138, 1, none⟩ = some (.slice A0_1 l0_1.length c0_1) := hS_
  refine norm_ (a' := ?_) ?_ ?_
  rotate_left
  · simp only [putAll, Act.put, List.setIfInBounds_toArray, List.set_cons_zero, List.set_cons_succ]
    rfl
  refine oneT 7 (some 10) #[true, true, true, true, true, true, true, true, false, false] (fun K hK => ?_)
  refine Kd.R_append_rows_step k49 (w0 := w) w.heap.size (by rfl) (.tmp 7) (.tmp 9) 29 49 (.agg #[(.int .i64 0), (.int .i64 0), (.bool false), (.int .i64 0)]) 32 rfl Try.underlying29 info49 rfl (by decide) (by omega) v147 y146 l0_1 _ _ _ (fun _ => True) (fun _ => False) rfl rfl ?aO ?aR (fun _ _ h => h) (fun _ h => h.elim) ?aF ?aB ?aS ?aL ?_
  (case aR => repeat (first | exact (Kd.C_below HR0_1.out HB.out) | (with_reducible refine Kd.C_alloc ?_ _) | (with_reducible refine Kd.C_drewN ?_ _) | (with_reducible refine Kd.C_drew ?_)))
  (case aB => exact cq16)
  (case aF => exact (fun _ _ => trivial))
  (case aO => exact (rSR HO148.out))
  (case aS => exact cq15)
  (case aL => have := LMc3.out; omega)
  intro v150 w13 ho hb hg hat
  rw [← Ny149.out] at ho
  have n0_ := tGr BK138 hg (Kd.R_ne HO148.out BK138.out (by decide))
  have n1_ := tGr BK139 hg (Kd.R_ne HO148.out BK139.out (by decide))
  have n2_ := Aside0.mk (Kd.R_over' (rSR HO145.out) (Kd.R_typed (rSR HO148.out)) (by decide) hg)
  have n3_ := Aside0.mk (hb)
  have n4_ := Aside0.mk (ho)
  clear BK138
  clear BK139
  clear HO145
  clear HB
  clear HO148
  have BK138 := n0_
  have BK139 := n1_
  have HO145 := n2_
  have HB := n3_
  have HO151 := n4_
  clear n0_ n1_ n2_ n3_ n4_
  clear ho hb hg hat
  obtain ⟨Ao14, co14, eo14⟩ := Kd.R_slice HO151.out
  (first | subst eo14 | (injection eo14 with f1_ f2_ f3_; have f4_ := f1_.symm; have f5_ := f3_.symm; clear f1_ f2_ f3_; subst f4_; subst f5_))
  obtain ⟨Ao15, co15, eo15⟩ := Kd.R_slice HO145.out
  (first | subst eo15 | (injection eo15 with f1_ f2_ f3_; have f4_ := f1_.symm; have f5_ := f3_.symm; clear f1_ f2_ f3_; subst f4_; subst f5_))
  refine hK.out _ _ ⟨(blk_cell BK138.out 0).trans rfl, (blk_cell BK138.out 1).trans rfl⟩ (fun hHeld => ?_)
  clear hK K
  refine normT (some 10) ?_
  refine pureT 8 (some 11) #[true, true, true, true, true, true, true, true, true, false] ?_
  refine one_ (i := 9) (N := none) #[true, true, true, true, true, true, true, true, true, true] rfl rfl (one_of HT_.out (by kernel_rfl)) (by decide) (fun K hK => ?_)
  have hs16 : w13.cell? ⟨gb139, 0, none⟩ = some (.slice none 0 0) := (blk_cell BK139.out 0).trans rfl
  have hfs16 := blk_frozen BK139.out 0
  have hns16_0 := NB138_139.out
  have hms16_0 := NB139_138.out
  have hs17 : w13.cell? ⟨gb139, 1, none⟩ = some (.slice none 0 0) := (blk_cell BK139.out 1).trans rfl
  have hfs17 := blk_frozen BK139.out 1
  have hns17_0 := NB138_139.out
  have hms17_0 := NB139_138.out
  refine skip_ (w1 := ?_) (by rfl) rfl ?_ ?_
  rotate_left
  · go_simp
    rfl
  refine hK.out _ _ ⟨((cell_far (p := ⟨gb139, _, none⟩) NB138_139.out _).trans (((cell_far (p := ⟨gb139, _, none⟩) NB138_139.out _).trans (hHeld.1)))), ((cell_far (p := ⟨gb139, _, none⟩) NB138_139.out _).trans (((cell_far (p := ⟨gb139, _, none⟩) NB138_139.out _).trans (hHeld.2))))⟩ (fun hHeld => ?_)
  clear hK K
  refine done_ (done_of HT_.out (by kernel_rfl)) ?_
  try go_wp2
  refine bodyPost_ret (results_cell_row rfl _ _ gb139 31 #[.slice Ao15 y143.length co15, .slice Ao14 y149.length co14] (0, 0) _ rfl (by (with_reducible repeat (first | refine blk_drewN ?_ _ | refine blk_drew ?_ | refine blk_alloc ?_ _)); refine blk_put (cs := #[.slice Ao15 y143.length co15, .slice none 0 0]) ?_ 1 _ rfl; (with_reducible repeat (first | refine blk_drewN ?_ _ | refine blk_drew ?_ | refine blk_alloc ?_ _)); refine blk_put (cs := #[.slice none 0 0, .slice none 0 0]) ?_ 0 _ rfl; (with_reducible repeat (first | refine blk_drewN ?_ _ | refine blk_drew ?_ | refine blk_alloc ?_ _)); exact BK139.out) Try.underlying31 rfl (by kernel_rfl)) rfl ?_
  exact ⟨_, _, cq1, by (with_reducible repeat (first | apply Kd.R_alloc | apply Kd.R_drewN | apply Kd.R_drew)); exact Kd.R_mono (Kd.R_far (p := ⟨gb139, 1, none⟩) (Kd.R_far (p := ⟨gb139, 0, none⟩) (Kd.R_types HO145.out BK139.out (by decide)) (fun _ hk => hk.2) (.slice Ao15 y143.length co15)) (fun _ hk => hk.2) (.slice Ao14 y149.length co14)) (fun _ hk => trivial), by (with_reducible repeat (first | apply Kd.R_alloc | apply Kd.R_drewN | apply Kd.R_drew)); exact Kd.R_mono (Kd.R_far (p := ⟨gb139, 1, none⟩) (Kd.R_far (p := ⟨gb139, 0, none⟩) (Kd.R_types HO151.out BK139.out (by decide)) (fun _ hk => hk.2) (.slice Ao15 y143.length co15)) (fun _ hk => hk.2) (.slice Ao14 y149.length co14)) (fun _ hk => trivial), cq0⟩

/-! ### spec_l1In: function 66 -/
def spec_l1In.f (a0 : Int) (a1 : Int) (a2 : Int) : Option (Bool) := if a0 ≥ a1 then (some (decide (a0 ≤ a2))) else (some false)
set_option maxHeartbeats 8000000 in
set_option maxRecDepth 100000 in
theorem spec_l1In.calls (a0 : Int) (a1 : Int) (a2 : Int) (r : Bool) (w : World) (h : spec_l1In.f a0 a1 a2 = some r) :
    Calls Try.prog 66 #[.int .i64 a0, .int .i64 a1, .int .i64 a2] w fun e w' => e = .returned (.bool r) ∧ Drawn0 w w' := by
  have H : (if a0 ≥ a1 then (some (decide (a0 ≤ a2))) else (some false)) = some r := h
  clear h
  by_cases c4 : a0 ≥ a1
  · rw [if_pos c4] at H
    have c4b0 := decide_eq_true c4
    clear c4
    obtain rfl := Option.some.inj H
    go_enter Try.func66, Try.ntmps66
    go_wp2
    go_ret
    exact ⟨cq5, cq10⟩
  rw [if_neg c4] at H
  have c4b0 := decide_eq_false c4
  clear c4
  obtain rfl := Option.some.inj H
  go_enter Try.func66, Try.ntmps66
  go_wp2
  go_ret
  exact ⟨cq5, cq10⟩

end Go.Proofs.Ytcikahnmiiichaa.A
