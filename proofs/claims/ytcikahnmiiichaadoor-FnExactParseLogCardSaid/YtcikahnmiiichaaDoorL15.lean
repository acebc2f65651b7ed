/- Go functions as Lean functions, and the proof that the code comes to them: written by a program of this session out of the translation. -/
import Derived.Test.YtcikahnmiiichaaDoorL0
import Derived.Test.YtcikahnmiiichaaDoorL14
namespace Go.Proofs.YtcikahnmiiichaaDoor.L
open List renaming setIfInBounds_toArray → vD, set_cons_zero → vE, set_cons_succ → vF
open Go.World renaming block_lt_of_cell? → vJ
open Go.Proofs.YtcikahnmiiichaaDoor.Given
open Go.RowKit Go.Proofs.YtcikahnmiiichaaDoorW.PrintWords Go.Proofs.YtcikahnmiiichaaDoorW.PrintLast Go.Proofs.YtcikahnmiiichaaDoorW.PrintMore
attribute [local go_sem] max2_int min2_int max_two min_two max_three min_three max_four min_four   -- for this text's walks alone
set_option linter.unusedVariables false
set_option linter.unusedSimpArgs false

/-! ### laws_eqEntryS: function 34 -/
def laws_eqEntryS.l0 : Nat → List (S66) → List (S66) → Int → Option (Bool)
  | 0, _, _, _ => none
  | k + 1, x0, x1, x5 => if x5 < (x0.length : Int) then (if 0 ≤ x5 then (if x5 < (x1.length : Int) then ((laws_eqEntry.f ((rd_T66 x0 x5).f0) ((rd_T66 x0 x5).f1.f0) ((rd_T66 x0 x5).f1.f1) ((rd_T66 x0 x5).f1.f2) ((rd_T66 x0 x5).f1.f3) ((rd_T66 x0 x5).f1.f4) ((rd_T66 x0 x5).f1.f5) ((rd_T66 x1 x5).f0) ((rd_T66 x1 x5).f1.f0) ((rd_T66 x1 x5).f1.f1) ((rd_T66 x1 x5).f1.f2) ((rd_T66 x1 x5).f1.f3) ((rd_T66 x1 x5).f1.f4) ((rd_T66 x1 x5).f1.f5)).bind fun t305 => (if t305 = true then (laws_eqEntryS.l0 k x0 x1 (wrap64 (x5 + 1))) else (some false))) else (none)) else (none)) else (some true)
def laws_eqEntryS.f (k : Nat) (l0 : List (S66)) (l1 : List (S66)) : Option (Bool) := if (l0.length : Int) = (l1.length : Int) then (laws_eqEntryS.l0 k l0 l1 0) else (some false)
theorem laws_eqEntryS.mono_l : ∀ k, (∀ y0 y1 y2, uE (laws_eqEntryS.l0 k y0 y1 y2) (laws_eqEntryS.l0 (k + 1) y0 y1 y2))
  | 0 => fun _ _ _ r h => by simp [laws_eqEntryS.l0] at h
  | k + 1 => by
    have ih0 := laws_eqEntryS.mono_l k
    intro y0 y1 y2
    unfold laws_eqEntryS.l0
    repeat' first
    | (with_reducible exact ih0 _ _ _)
    | (with_reducible exact uE.refl _)
    | (with_reducible exact uE.none _)
    | (with_reducible refine uE.ite ?_ ?_)
    | (with_reducible refine uE.bind ?_ (fun _ => ?_))
    | exact ih0 _ _ _
    | exact uE.none _
    | refine uE.ite ?_ ?_
    | refine uE.bind ?_ (fun _ => ?_)
theorem laws_eqEntryS.mono : ∀ a0 a1 k, uE (laws_eqEntryS.f k a0 a1) (laws_eqEntryS.f (k + 1) a0 a1) := by
  intro a0 a1 k
  have ih0 := laws_eqEntryS.mono_l k
  unfold laws_eqEntryS.f
  repeat' first
      | (with_reducible exact ih0 _ _ _)
      | (with_reducible exact uE.refl _)
      | (with_reducible exact uE.none _)
      | (with_reducible refine uE.ite ?_ ?_)
      | (with_reducible refine uE.bind ?_ (fun _ => ?_))
      | exact ih0 _ _ _
      | exact uE.none _
      | refine uE.ite ?_ ?_
      | refine uE.bind ?_ (fun _ => ?_)
def laws_eqEntryS.T6 : Bool × List (List Nat × List Nat) := (true, [([], []), ([], []), ([0, 1], [0, 1]), ([2], [2]), ([], []), ([], []), ([4, 5], [4, 5]), ([6], [6]), ([3, 7], [3, 7]), ([8], [8])])
def laws_eqEntryS.B6 : List Nat := [0, 0, 3, 7, 0, 0, 48, 112, 255, 511]
theorem laws_eqEntryS.tab6 : rtab .any (opsOf Tryd.f34 6) = laws_eqEntryS.T6 := by kernel_rfl
theorem laws_eqEntryS.bits6 : waitsOk laws_eqEntryS.T6.2 laws_eqEntryS.B6 = true := by kernel_rfl
set_option maxHeartbeats 8000000 in
set_option maxRecDepth 100000 in
theorem laws_eqEntryS.calls (k : Nat) (A0 : Option Addr) (c0 : Nat) (l0 : List (S66)) (A1 : Option Addr) (c1 : Nat) (l1 : List (S66)) (r : Bool) (w : World) (hr0 : Kd.C k66 w A0 l0.length l0) (hc0 : l0.length ≤ c0) (hr1 : Kd.C k66 w A1 l1.length l1) (hc1 : l1.length ≤ c1) (h : laws_eqEntryS.f k l0 l1 = some r) :
    Calls Tryd.prog 34 #[.slice A0 l0.length c0, .slice A1 l1.length c1] w fun e w' => e = .returned (.bool r) ∧ Below w.heap.size w w' := by
  have hu66 := Tryd.underlying66
  have HR0 := Aside0.mk hr0
  have HC0 := Aside0.mk hc0
  clear hr0 hc0
  have HR1 := Aside0.mk hr1
  have HC1 := Aside0.mk hc1
  clear hr1 hc1
  have HB := Aside0.mk (Below.refl w.heap.size w)
  have H : (if (l0.length : Int) = (l1.length : Int) then (laws_eqEntryS.l0 k l0 l1 0) else (some false)) = some r := h
  clear h
  by_cases c3 : (l0.length : Int) = (l1.length : Int)
  rotate_left
  · rw [if_neg c3] at H
    have c3b0 := beq_eq_false_iff_ne.mpr c3
    have c3b1 := bne_iff_ne.mpr c3
    have c3b2 : (l0.length == l1.length) = false := by first | simpa using c3 | (simp at c3 ⊢; omega)
    obtain rfl := Option.some.inj H
    go_enter Tryd.func34, Tryd.ntmps34
    go_wp2
    go_ret
    exact ⟨cq3, cq1⟩
  rw [if_pos c3] at H
  have c3b0 := beq_iff_eq.mpr c3
  have c3b1 := bne_eq_false_iff_eq.mpr c3
  have c3b2 : (l0.length == l1.length) = true := by first | simpa using c3 | (simp at c3 ⊢; omega)
  clear c3
  have H' := Aside0.mk H
  clear H
  go_enter Tryd.func34, Tryd.ntmps34
  go_wp2
  go_loopg [5] k (fun kq v5 w' => ∃ (x5_1 : Int), v5 = .int .i64 x5_1 ∧ Aside0 (laws_eqEntryS.l0 kq l0 l1 x5_1 = some r) ∧ Aside0 (kq ≤ k) ∧ Aside0 (Below w.heap.size w w'))
  case atStart => exact ⟨(0), cq6, H', ⟨Nat.le_refl _⟩, ⟨cq1⟩⟩
  case round =>
    clear H'
    try clear c1
    try clear c3
    try clear c3b0
    try clear c3b1
    try clear c3b2
    obtain ⟨x5_1, rfl, HA, HK1, HB⟩ := hrel
    cases gk with
    | zero => exact absurd HA.out (by simp [laws_eqEntryS.l0])
    | succ k1 =>
      have H := HA.out
      clear HA
      simp only [laws_eqEntryS.l0] at H
      by_cases c4 : x5_1 < (l0.length : Int)
      rotate_left
      · rw [if_neg c4] at H
        have c4b0 := decide_eq_false c4
        clear c4
        obtain rfl := Option.some.inj H
        go_wp2
        go_ret
        exact ⟨cq3, cq1⟩
      rw [if_pos c4] at H
      have c4b0 := decide_eq_true c4
      clear c4
      obtain ⟨c5b0, H⟩ := ifD H
      obtain ⟨c6b0, H⟩ := ifD H
      replace H := Option.bind_eq_some_iff.mp H
      obtain ⟨t305, A70, H⟩ := H
      try dsimp only at H
      have A7 := Aside0.mk A70
      clear A70
      by_cases c8 : t305 = true
      rotate_left
      · replace c8 := Bool.eq_false_iff.mpr c8
        subst c8
        try rw [if_neg (show ¬ (false = true) by decide)] at H
        obtain rfl := Option.some.inj H
        try go_wp2
        replace HB := Aside0.mk (vB HB.out)
        have p303 : 0 ≤ (x5_1 : Int) := of_decide_eq_true uL
        have q303 : x5_1 < (l0.length : Int) := of_decide_eq_true uL
        obtain ⟨ad303, e303, hx303_0, hx303_1, hx303_2, hx303_3, hx303_4, hx303_5, hx303_6⟩ := at_T66 HR0.out x5_1 p303 q303
        have hw303_6 := hx303_6
        have hw303_5 := hx303_5
        have hw303_4 := hx303_4
        have hw303_3 := hx303_3
        have hw303_2 := hx303_2
        have hw303_1 := hx303_1
        have hw303_0 := hx303_0
        cases e303
        replace hx303_0 := (HB.out.cell (vJ w _ hx303_0)).trans hx303_0
        replace hx303_1 := (HB.out.cell (vJ w _ hx303_1)).trans hx303_1
        replace hx303_2 := (HB.out.cell (vJ w _ hx303_2)).trans hx303_2
        replace hx303_3 := (HB.out.cell (vJ w _ hx303_3)).trans hx303_3
        replace hx303_4 := (HB.out.cell (vJ w _ hx303_4)).trans hx303_4
        replace hx303_5 := (HB.out.cell (vJ w _ hx303_5)).trans hx303_5
        replace hx303_6 := (HB.out.cell (vJ w _ hx303_6)).trans hx303_6
        replace p303 := eq_true p303
        replace q303 := eq_true q303
        have p304 : 0 ≤ (x5_1 : Int) := of_decide_eq_true uL
        have q304 : x5_1 < (l1.length : Int) := of_decide_eq_true uL
        obtain ⟨ad304, e304, hx304_0, hx304_1, hx304_2, hx304_3, hx304_4, hx304_5, hx304_6⟩ := at_T66 HR1.out x5_1 p304 q304
        have hw304_6 := hx304_6
        have hw304_5 := hx304_5
        have hw304_4 := hx304_4
        have hw304_3 := hx304_3
        have hw304_2 := hx304_2
        have hw304_1 := hx304_1
        have hw304_0 := hx304_0
        cases e304
        replace hx304_0 := (HB.out.cell (vJ w _ hx304_0)).trans hx304_0
        replace hx304_1 := (HB.out.cell (vJ w _ hx304_1)).trans hx304_1
        replace hx304_2 := (HB.out.cell (vJ w _ hx304_2)).trans hx304_2
        replace hx304_3 := (HB.out.cell (vJ w _ hx304_3)).trans hx304_3
        replace hx304_4 := (HB.out.cell (vJ w _ hx304_4)).trans hx304_4
        replace hx304_5 := (HB.out.cell (vJ w _ hx304_5)).trans hx304_5
        replace hx304_6 := (HB.out.cell (vJ w _ hx304_6)).trans hx304_6
        replace p304 := eq_true p304
        replace q304 := eq_true q304
        refine start_ (n := 10) (S := fun w' => w'.cell? (ad303.add ((x5_1).toNat * 7)) = some (.int .i64 ((rd_T66 l0 x5_1).f0)) ∧ w'.cell? ⟨(ad303.add ((x5_1).toNat * 7)).block, (ad303.add ((x5_1).toNat * 7)).off + 1, none⟩ = some (.int .i64 ((rd_T66 l0 x5_1).f1.f0)) ∧ w'.cell? ⟨(ad303.add ((x5_1).toNat * 7)).block, (ad303.add ((x5_1).toNat * 7)).off + 2, none⟩ = some (.int .i64 ((rd_T66 l0 x5_1).f1.f1)) ∧ w'.cell? ⟨(ad303.add ((x5_1).toNat * 7)).block, (ad303.add ((x5_1).toNat * 7)).off + 3, none⟩ = some (.int .i64 ((rd_T66 l0 x5_1).f1.f2)) ∧ w'.cell? ⟨(ad303.add ((x5_1).toNat * 7)).block, (ad303.add ((x5_1).toNat * 7)).off + 4, none⟩ = some (.int .i64 ((rd_T66 l0 x5_1).f1.f3)) ∧ w'.cell? ⟨(ad303.add ((x5_1).toNat * 7)).block, (ad303.add ((x5_1).toNat * 7)).off + 5, none⟩ = some (.int .i64 ((rd_T66 l0 x5_1).f1.f4)) ∧ w'.cell? ⟨(ad303.add ((x5_1).toNat * 7)).block, (ad303.add ((x5_1).toNat * 7)).off + 6, none⟩ = some (.int .i64 ((rd_T66 l0 x5_1).f1.f5)) ∧ w'.cell? (ad304.add ((x5_1).toNat * 7)) = some (.int .i64 ((rd_T66 l1 x5_1).f0)) ∧ w'.cell? ⟨(ad304.add ((x5_1).toNat * 7)).block, (ad304.add ((x5_1).toNat * 7)).off + 1, none⟩ = some (.int .i64 ((rd_T66 l1 x5_1).f1.f0)) ∧ w'.cell? ⟨(ad304.add ((x5_1).toNat * 7)).block, (ad304.add ((x5_1).toNat * 7)).off + 2, none⟩ = some (.int .i64 ((rd_T66 l1 x5_1).f1.f1)) ∧ w'.cell? ⟨(ad304.add ((x5_1).toNat * 7)).block, (ad304.add ((x5_1).toNat * 7)).off + 3, none⟩ = some (.int .i64 ((rd_T66 l1 x5_1).f1.f2)) ∧ w'.cell? ⟨(ad304.add ((x5_1).toNat * 7)).block, (ad304.add ((x5_1).toNat * 7)).off + 4, none⟩ = some (.int .i64 ((rd_T66 l1 x5_1).f1.f3)) ∧ w'.cell? ⟨(ad304.add ((x5_1).toNat * 7)).block, (ad304.add ((x5_1).toNat * 7)).off + 5, none⟩ = some (.int .i64 ((rd_T66 l1 x5_1).f1.f4)) ∧ w'.cell? ⟨(ad304.add ((x5_1).toNat * 7)).block, (ad304.add ((x5_1).toNat * 7)).off + 6, none⟩ = some (.int .i64 ((rd_T66 l1 x5_1).f1.f5))) (ds := []) tb12 (by kernel_rfl) rfl rfl ⟨((HB.out.cell (vJ w _ hw303_0)).trans hw303_0), ((HB.out.cell (vJ w _ hw303_1)).trans hw303_1), ((HB.out.cell (vJ w _ hw303_2)).trans hw303_2), ((HB.out.cell (vJ w _ hw303_3)).trans hw303_3), ((HB.out.cell (vJ w _ hw303_4)).trans hw303_4), ((HB.out.cell (vJ w _ hw303_5)).trans hw303_5), ((HB.out.cell (vJ w _ hw303_6)).trans hw303_6), ((HB.out.cell (vJ w _ hw304_0)).trans hw304_0), ((HB.out.cell (vJ w _ hw304_1)).trans hw304_1), ((HB.out.cell (vJ w _ hw304_2)).trans hw304_2), ((HB.out.cell (vJ w _ hw304_3)).trans hw304_3), ((HB.out.cell (vJ w _ hw304_4)).trans hw304_4), ((HB.out.cell (vJ w _ hw304_5)).trans hw304_5), ((HB.out.cell (vJ w _ hw304_6)).trans hw304_6)⟩ (fun hHeld => ?_); refine with_tabW laws_eqEntryS.tab6 laws_eqEntryS.bits6 (fun HT_ HW_ => ?_)
        generalize wr.drew = w11 at HB hx303_0 hx303_1 hx303_2 hx303_3 hx303_4 hx303_5 hx303_6 hx304_0 hx304_1 hx304_2 hx304_3 hx304_4 hx304_5 hx304_6 hHeld ⊢
        refine uJ 0 (some 17) tb13 ?_
        refine uJ 1 (some 18) tb60 ?_
        refine uJ 2 (some 19) tb61 ?_
        refine uJ 4 (some 21) tb89 ?_
        refine uJ 5 (some 22) tb27 ?_
        refine uJ 6 (some 23) tb92 ?_
        refine takeT 3 (some 20) tb18 ?_
        refine takeT 7 (some 24) tb19 ?_
        refine oneT 8 (some 25) tb20 (fun K hK => ?_)
        refine goesT Tryd.func73 #[.agg #[.int .i64 ((rd_T66 l0 x5_1).f0), .int .i64 ((rd_T66 l0 x5_1).f1.f0), .int .i64 ((rd_T66 l0 x5_1).f1.f1), .int .i64 ((rd_T66 l0 x5_1).f1.f2), .int .i64 ((rd_T66 l0 x5_1).f1.f3), .int .i64 ((rd_T66 l0 x5_1).f1.f4), .int .i64 ((rd_T66 l0 x5_1).f1.f5)], .agg #[.int .i64 ((rd_T66 l1 x5_1).f0), .int .i64 ((rd_T66 l1 x5_1).f1.f0), .int .i64 ((rd_T66 l1 x5_1).f1.f1), .int .i64 ((rd_T66 l1 x5_1).f1.f2), .int .i64 ((rd_T66 l1 x5_1).f1.f3), .int .i64 ((rd_T66 l1 x5_1).f1.f4), .int .i64 ((rd_T66 l1 x5_1).f1.f5)]] ?_
        with_reducible refine (laws_eqEntry.calls ((rd_T66 l0 x5_1).f0) ((rd_T66 l0 x5_1).f1.f0) ((rd_T66 l0 x5_1).f1.f1) ((rd_T66 l0 x5_1).f1.f2) ((rd_T66 l0 x5_1).f1.f3) ((rd_T66 l0 x5_1).f1.f4) ((rd_T66 l0 x5_1).f1.f5) ((rd_T66 l1 x5_1).f0) ((rd_T66 l1 x5_1).f1.f0) ((rd_T66 l1 x5_1).f1.f1) ((rd_T66 l1 x5_1).f1.f2) ((rd_T66 l1 x5_1).f1.f3) ((rd_T66 l1 x5_1).f1.f4) ((rd_T66 l1 x5_1).f1.f5) false _ A7.out).mono ?_
        rintro e w12 ⟨rfl, hb⟩
        refine ⟨_, rfl, ?_⟩
        replace HB := uR HB hb
        (try clear hb)
        refine hK.out _ _ ⟨((HB.out.cell (vJ w _ hw303_0)).trans hw303_0), ((HB.out.cell (vJ w _ hw303_1)).trans hw303_1), ((HB.out.cell (vJ w _ hw303_2)).trans hw303_2), ((HB.out.cell (vJ w _ hw303_3)).trans hw303_3), ((HB.out.cell (vJ w _ hw303_4)).trans hw303_4), ((HB.out.cell (vJ w _ hw303_5)).trans hw303_5), ((HB.out.cell (vJ w _ hw303_6)).trans hw303_6), ((HB.out.cell (vJ w _ hw304_0)).trans hw304_0), ((HB.out.cell (vJ w _ hw304_1)).trans hw304_1), ((HB.out.cell (vJ w _ hw304_2)).trans hw304_2), ((HB.out.cell (vJ w _ hw304_3)).trans hw304_3), ((HB.out.cell (vJ w _ hw304_4)).trans hw304_4), ((HB.out.cell (vJ w _ hw304_5)).trans hw304_5), ((HB.out.cell (vJ w _ hw304_6)).trans hw304_6)⟩ (fun hHeld => ?_)
        clear hK K
        refine uW ?_
        refine uJ 9 (some 26) tb21 ?_
        refine done_ (done_of HT_.out (by kernel_rfl)) ?_
        try go_wp2
        go_ret
        exact ⟨cq3, cq1⟩
      subst c8
      try rw [if_pos rfl] at H
      have H' := Aside0.mk H
      clear H
      try go_wp2
      replace HB := Aside0.mk (vB HB.out)
      have p303 : 0 ≤ (x5_1 : Int) := of_decide_eq_true uL
      have q303 : x5_1 < (l0.length : Int) := of_decide_eq_true uL
      obtain ⟨ad303, e303, hx303_0, hx303_1, hx303_2, hx303_3, hx303_4, hx303_5, hx303_6⟩ := at_T66 HR0.out x5_1 p303 q303
      have hw303_6 := hx303_6
      have hw303_5 := hx303_5
      have hw303_4 := hx303_4
      have hw303_3 := hx303_3
      have hw303_2 := hx303_2
      have hw303_1 := hx303_1
      have hw303_0 := hx303_0
      cases e303
      replace hx303_0 := (HB.out.cell (vJ w _ hx303_0)).trans hx303_0
      replace hx303_1 := (HB.out.cell (vJ w _ hx303_1)).trans hx303_1
      replace hx303_2 := (HB.out.cell (vJ w _ hx303_2)).trans hx303_2
      replace hx303_3 := (HB.out.cell (vJ w _ hx303_3)).trans hx303_3
      replace hx303_4 := (HB.out.cell (vJ w _ hx303_4)).trans hx303_4
      replace hx303_5 := (HB.out.cell (vJ w _ hx303_5)).trans hx303_5
      replace hx303_6 := (HB.out.cell (vJ w _ hx303_6)).trans hx303_6
      replace p303 := eq_true p303
      replace q303 := eq_true q303
      have p304 : 0 ≤ (x5_1 : Int) := of_decide_eq_true uL
      have q304 : x5_1 < (l1.length : Int) := of_decide_eq_true uL
      obtain ⟨ad304, e304, hx304_0, hx304_1, hx304_2, hx304_3, hx304_4, hx304_5, hx304_6⟩ := at_T66 HR1.out x5_1 p304 q304
      have hw304_6 := hx304_6
      have hw304_5 := hx304_5
      have hw304_4 := hx304_4
      have hw304_3 := hx304_3
      have hw304_2 := hx304_2
      have hw304_1 := hx304_1
      have hw304_0 := hx304_0
      cases e304
      replace hx304_0 := (HB.out.cell (vJ w _ hx304_0)).trans hx304_0
      replace hx304_1 := (HB.out.cell (vJ w _ hx304_1)).trans hx304_1
      replace hx304_2 := (HB.out.cell (vJ w _ hx304_2)).trans hx304_2
      replace hx304_3 := (HB.out.cell (vJ w _ hx304_3)).trans hx304_3
      replace hx304_4 := (HB.out.cell (vJ w _ hx304_4)).trans hx304_4
      replace hx304_5 := (HB.out.cell (vJ w _ hx304_5)).trans hx304_5
      replace hx304_6 := (HB.out.cell (vJ w _ hx304_6)).trans hx304_6
      replace p304 := eq_true p304
      replace q304 := eq_true q304
      refine start_ (n := 10) (S := fun w' => w'.cell? (ad303.add ((x5_1).toNat * 7)) = some (.int .i64 ((rd_T66 l0 x5_1).f0)) ∧ w'.cell? ⟨(ad303.add ((x5_1).toNat * 7)).block, (ad303.add ((x5_1).toNat * 7)).off + 1, none⟩ = some (.int .i64 ((rd_T66 l0 x5_1).f1.f0)) ∧ w'.cell? ⟨(ad303.add ((x5_1).toNat * 7)).block, (ad303.add ((x5_1).toNat * 7)).off + 2, none⟩ = some (.int .i64 ((rd_T66 l0 x5_1).f1.f1)) ∧ w'.cell? ⟨(ad303.add ((x5_1).toNat * 7)).block, (ad303.add ((x5_1).toNat * 7)).off + 3, none⟩ = some (.int .i64 ((rd_T66 l0 x5_1).f1.f2)) ∧ w'.cell? ⟨(ad303.add ((x5_1).toNat * 7)).block, (ad303.add ((x5_1).toNat * 7)).off + 4, none⟩ = some (.int .i64 ((rd_T66 l0 x5_1).f1.f3)) ∧ w'.cell? ⟨(ad303.add ((x5_1).toNat * 7)).block, (ad303.add ((x5_1).toNat * 7)).off + 5, none⟩ = some (.int .i64 ((rd_T66 l0 x5_1).f1.f4)) ∧ w'.cell? ⟨(ad303.add ((x5_1).toNat * 7)).block, (ad303.add ((x5_1).toNat * 7)).off + 6, none⟩ = some (.int .i64 ((rd_T66 l0 x5_1).f1.f5)) ∧ w'.cell? (ad304.add ((x5_1).toNat * 7)) = some (.int .i64 ((rd_T66 l1 x5_1).f0)) ∧ w'.cell? ⟨(ad304.add ((x5_1).toNat * 7)).block, (ad304.add ((x5_1).toNat * 7)).off + 1, none⟩ = some (.int .i64 ((rd_T66 l1 x5_1).f1.f0)) ∧ w'.cell? ⟨(ad304.add ((x5_1).toNat * 7)).block, (ad304.add ((x5_1).toNat * 7)).off + 2, none⟩ = some (.int .i64 ((rd_T66 l1 x5_1).f1.f1)) ∧ w'.cell? ⟨(ad304.add ((x5_1).toNat * 7)).block, (ad304.add ((x5_1).toNat * 7)).off + 3, none⟩ = some (.int .i64 ((rd_T66 l1 x5_1).f1.f2)) ∧ w'.cell? ⟨(ad304.add ((x5_1).toNat * 7)).block, (ad304.add ((x5_1).toNat * 7)).off + 4, none⟩ = some (.int .i64 ((rd_T66 l1 x5_1).f1.f3)) ∧ w'.cell? ⟨(ad304.add ((x5_1).toNat * 7)).block, (ad304.add ((x5_1).toNat * 7)).off + 5, none⟩ = some (.int .i64 ((rd_T66 l1 x5_1).f1.f4)) ∧ w'.cell? ⟨(ad304.add ((x5_1).toNat * 7)).block, (ad304.add ((x5_1).toNat * 7)).off + 6, none⟩ = some (.int .i64 ((rd_T66 l1 x5_1).f1.f5))) (ds := []) tb12 (by kernel_rfl) rfl rfl ⟨((HB.out.cell (vJ w _ hw303_0)).trans hw303_0), ((HB.out.cell (vJ w _ hw303_1)).trans hw303_1), ((HB.out.cell (vJ w _ hw303_2)).trans hw303_2), ((HB.out.cell (vJ w _ hw303_3)).trans hw303_3), ((HB.out.cell (vJ w _ hw303_4)).trans hw303_4), ((HB.out.cell (vJ w _ hw303_5)).trans hw303_5), ((HB.out.cell (vJ w _ hw303_6)).trans hw303_6), ((HB.out.cell (vJ w _ hw304_0)).trans hw304_0), ((HB.out.cell (vJ w _ hw304_1)).trans hw304_1), ((HB.out.cell (vJ w _ hw304_2)).trans hw304_2), ((HB.out.cell (vJ w _ hw304_3)).trans hw304_3), ((HB.out.cell (vJ w _ hw304_4)).trans hw304_4), ((HB.out.cell (vJ w _ hw304_5)).trans hw304_5), ((HB.out.cell (vJ w _ hw304_6)).trans hw304_6)⟩ (fun hHeld => ?_); refine with_tabW laws_eqEntryS.tab6 laws_eqEntryS.bits6 (fun HT_ HW_ => ?_)
      generalize wr.drew = w9 at HB hx303_0 hx303_1 hx303_2 hx303_3 hx303_4 hx303_5 hx303_6 hx304_0 hx304_1 hx304_2 hx304_3 hx304_4 hx304_5 hx304_6 hHeld ⊢
      refine uJ 0 (some 17) tb13 ?_
      refine uJ 1 (some 18) tb60 ?_
      refine uJ 2 (some 19) tb61 ?_
      refine uJ 4 (some 21) tb89 ?_
      refine uJ 5 (some 22) tb27 ?_
      refine uJ 6 (some 23) tb92 ?_
      refine takeT 3 (some 20) tb18 ?_
      refine takeT 7 (some 24) tb19 ?_
      refine oneT 8 (some 25) tb20 (fun K hK => ?_)
      refine goesT Tryd.func73 #[.agg #[.int .i64 ((rd_T66 l0 x5_1).f0), .int .i64 ((rd_T66 l0 x5_1).f1.f0), .int .i64 ((rd_T66 l0 x5_1).f1.f1), .int .i64 ((rd_T66 l0 x5_1).f1.f2), .int .i64 ((rd_T66 l0 x5_1).f1.f3), .int .i64 ((rd_T66 l0 x5_1).f1.f4), .int .i64 ((rd_T66 l0 x5_1).f1.f5)], .agg #[.int .i64 ((rd_T66 l1 x5_1).f0), .int .i64 ((rd_T66 l1 x5_1).f1.f0), .int .i64 ((rd_T66 l1 x5_1).f1.f1), .int .i64 ((rd_T66 l1 x5_1).f1.f2), .int .i64 ((rd_T66 l1 x5_1).f1.f3), .int .i64 ((rd_T66 l1 x5_1).f1.f4), .int .i64 ((rd_T66 l1 x5_1).f1.f5)]] ?_
      with_reducible refine (laws_eqEntry.calls ((rd_T66 l0 x5_1).f0) ((rd_T66 l0 x5_1).f1.f0) ((rd_T66 l0 x5_1).f1.f1) ((rd_T66 l0 x5_1).f1.f2) ((rd_T66 l0 x5_1).f1.f3) ((rd_T66 l0 x5_1).f1.f4) ((rd_T66 l0 x5_1).f1.f5) ((rd_T66 l1 x5_1).f0) ((rd_T66 l1 x5_1).f1.f0) ((rd_T66 l1 x5_1).f1.f1) ((rd_T66 l1 x5_1).f1.f2) ((rd_T66 l1 x5_1).f1.f3) ((rd_T66 l1 x5_1).f1.f4) ((rd_T66 l1 x5_1).f1.f5) true _ A7.out).mono ?_
      rintro e w10 ⟨rfl, hb⟩
      refine ⟨_, rfl, ?_⟩
      replace HB := uR HB hb
      (try clear hb)
      refine hK.out _ _ ⟨((HB.out.cell (vJ w _ hw303_0)).trans hw303_0), ((HB.out.cell (vJ w _ hw303_1)).trans hw303_1), ((HB.out.cell (vJ w _ hw303_2)).trans hw303_2), ((HB.out.cell (vJ w _ hw303_3)).trans hw303_3), ((HB.out.cell (vJ w _ hw303_4)).trans hw303_4), ((HB.out.cell (vJ w _ hw303_5)).trans hw303_5), ((HB.out.cell (vJ w _ hw303_6)).trans hw303_6), ((HB.out.cell (vJ w _ hw304_0)).trans hw304_0), ((HB.out.cell (vJ w _ hw304_1)).trans hw304_1), ((HB.out.cell (vJ w _ hw304_2)).trans hw304_2), ((HB.out.cell (vJ w _ hw304_3)).trans hw304_3), ((HB.out.cell (vJ w _ hw304_4)).trans hw304_4), ((HB.out.cell (vJ w _ hw304_5)).trans hw304_5), ((HB.out.cell (vJ w _ hw304_6)).trans hw304_6)⟩ (fun hHeld => ?_)
      clear hK K
      refine uW ?_
      refine uJ 9 (some 26) tb21 ?_
      refine done_ (done_of HT_.out (by kernel_rfl)) ?_
      try go_wp2
      go_roundg k1
      case measure => have := HK1.out; omega
      case rel => exact ⟨(wrap64 (x5_1 + 1)), cq6, H', ⟨by have := HK1.out; omega⟩, ⟨cq1⟩⟩

/-! ### laws_markEntryS: function 35 -/
def laws_markEntryS.l0 : Nat → List (S66) → Int → Int → Option (Int × (List (S66)))
  | 0, _, _, _ => none
  | k + 1, x0, x1, x5 => if x5 < (x0.length : Int) then (if 0 ≤ x5 then ((some (x0.set (x5 : Int).toNat (⟨x1, (⟨(rd_T66 x0 x5).f1.f0, (rd_T66 x0 x5).f1.f1, (rd_T66 x0 x5).f1.f2, (rd_T66 x0 x5).f1.f3, (rd_T66 x0 x5).f1.f4, (rd_T66 x0 x5).f1.f5⟩ : S64)⟩ : S66) : List (S66))).bind fun y306 => ((some (y306.set (x5 : Int).toNat (⟨(rd_T66 y306 x5).f0, (⟨wrap64 (x1 + 1), (rd_T66 y306 x5).f1.f1, (rd_T66 y306 x5).f1.f2, (rd_T66 y306 x5).f1.f3, (rd_T66 y306 x5).f1.f4, (rd_T66 y306 x5).f1.f5⟩ : S64)⟩ : S66) : List (S66))).bind fun y307 => ((some (y307.set (x5 : Int).toNat (⟨(rd_T66 y307 x5).f0, (⟨(rd_T66 y307 x5).f1.f0, wrap64 ((wrap64 (x1 + 1)) + 1), (rd_T66 y307 x5).f1.f2, (rd_T66 y307 x5).f1.f3, (rd_T66 y307 x5).f1.f4, (rd_T66 y307 x5).f1.f5⟩ : S64)⟩ : S66) : List (S66))).bind fun y308 => ((some (y308.set (x5 : Int).toNat (⟨(rd_T66 y308 x5).f0, (⟨(rd_T66 y308 x5).f1.f0, (rd_T66 y308 x5).f1.f1, wrap64 ((wrap64 ((wrap64 (x1 + 1)) + 1)) + 1), (rd_T66 y308 x5).f1.f3, (rd_T66 y308 x5).f1.f4, (rd_T66 y308 x5).f1.f5⟩ : S64)⟩ : S66) : List (S66))).bind fun y309 => ((some (y309.set (x5 : Int).toNat (⟨(rd_T66 y309 x5).f0, (⟨(rd_T66 y309 x5).f1.f0, (rd_T66 y309 x5).f1.f1, (rd_T66 y309 x5).f1.f2, wrap64 ((wrap64 ((wrap64 ((wrap64 (x1 + 1)) + 1)) + 1)) + 1), (rd_T66 y309 x5).f1.f4, (rd_T66 y309 x5).f1.f5⟩ : S64)⟩ : S66) : List (S66))).bind fun y310 => ((some (y310.set (x5 : Int).toNat (⟨(rd_T66 y310 x5).f0, (⟨(rd_T66 y310 x5).f1.f0, (rd_T66 y310 x5).f1.f1, (rd_T66 y310 x5).f1.f2, (rd_T66 y310 x5).f1.f3, wrap64 ((wrap64 ((wrap64 ((wrap64 ((wrap64 (x1 + 1)) + 1)) + 1)) + 1)) + 1), (rd_T66 y310 x5).f1.f5⟩ : S64)⟩ : S66) : List (S66))).bind fun y311 => (laws_markEntryS.l0 k (y311.set (x5 : Int).toNat (⟨(rd_T66 y311 x5).f0, (⟨(rd_T66 y311 x5).f1.f0, (rd_T66 y311 x5).f1.f1, (rd_T66 y311 x5).f1.f2, (rd_T66 y311 x5).f1.f3, (rd_T66 y311 x5).f1.f4, wrap64 ((wrap64 ((wrap64 ((wrap64 ((wrap64 ((wrap64 (x1 + 1)) + 1)) + 1)) + 1)) + 1)) + 1)⟩ : S64)⟩ : S66)) (wrap64 ((wrap64 ((wrap64 ((wrap64 ((wrap64 ((wrap64 ((wrap64 (x1 + 1)) + 1)) + 1)) + 1)) + 1)) + 1)) + 1)) (wrap64 (x5 + 1))))))))) else (none)) else (some (x1, x0))
def laws_markEntryS.f (k : Nat) (l0 : List (S66)) (a1 : Int) : Option (Int × (List (S66))) := laws_markEntryS.l0 k l0 a1 0
theorem laws_markEntryS.mono_l : ∀ k, (∀ y0 y1 y2, uE (laws_markEntryS.l0 k y0 y1 y2) (laws_markEntryS.l0 (k + 1) y0 y1 y2))
  | 0 => fun _ _ _ r h => by simp [laws_markEntryS.l0] at h
  | k + 1 => by
    have ih0 := laws_markEntryS.mono_l k
    intro y0 y1 y2
    unfold laws_markEntryS.l0
    repeat' first
    | (with_reducible exact ih0 _ _ _)
    | (with_reducible exact uE.refl _)
    | (with_reducible exact uE.none _)
    | (with_reducible refine uE.ite ?_ ?_)
    | (with_reducible refine uE.bind ?_ (fun _ => ?_))
    | exact ih0 _ _ _
    | exact uE.none _
    | refine uE.ite ?_ ?_
    | refine uE.bind ?_ (fun _ => ?_)
theorem laws_markEntryS.mono : ∀ a0 a1 k, uE (laws_markEntryS.f k a0 a1) (laws_markEntryS.f (k + 1) a0 a1) := by
  intro a0 a1 k
  have ih0 := laws_markEntryS.mono_l k
  unfold laws_markEntryS.f
  repeat' first
      | (with_reducible exact ih0 _ _ _)
      | (with_reducible exact uE.refl _)
      | (with_reducible exact uE.none _)
      | (with_reducible refine uE.ite ?_ ?_)
      | (with_reducible refine uE.bind ?_ (fun _ => ?_))
      | exact ih0 _ _ _
      | exact uE.none _
      | refine uE.ite ?_ ?_
      | refine uE.bind ?_ (fun _ => ?_)
set_option maxHeartbeats 8000000 in
set_option maxRecDepth 100000 in
theorem laws_markEntryS.calls (k : Nat) (P0_ : Nat → Prop) (u9000_ : Value) (l0 : List (S66)) (a1 : Int) (r1 : Int) (r2 : List (S66)) (w0 w : World) (hB : Below w0.heap.size w0 w) (ho0 : Kd.R k66 66 w w0.heap.size P0_ u9000_ l0) (h : laws_markEntryS.f k l0 a1 = some (r1, r2)) :
    Calls Tryd.prog 35 #[u9000_, .int .i64 a1] w fun e w' => e = .returned (.int .i64 r1) ∧ Kd.R k66 66 w' w0.heap.size (fun k_ => (P0_ k_ ∨ w.heap.size ≤ k_)) u9000_ r2 ∧ Below w0.heap.size w0 w' ∧ Kept w w' (fun k_ => P0_ k_) := by
  have HO0 := Aside0.mk (show Kd.R k66 66 w w0.heap.size (fun k_ => (P0_ k_ ∨ w.heap.size ≤ k_)) u9000_ l0 from Kd.R_mono ho0 (fun k_ hk => (.inl hk)))
  have HK := Aside0.mk (Kept.refl w (fun k_ => P0_ k_))
  have HW0 := Aside0.mk hB.size
  have HB := Aside0.mk hB
  clear hB
  have H : (laws_markEntryS.l0 k l0 a1 0) = some (r1, r2) := h
  clear h
  have H' := Aside0.mk H
  clear H
  go_enter Tryd.func35, Tryd.ntmps35
  go_wp2
  go_loopg [1, 5] k (fun kq v1 v5 w' => ∃ (x0_1 : List (S66)) (x1_1 : Int) (x5_1 : Int), v1 = .int .i64 x1_1 ∧ v5 = .int .i64 x5_1 ∧ Aside0 (laws_markEntryS.l0 kq x0_1 x1_1 x5_1 = some (r1, r2)) ∧ Aside0 (kq ≤ k) ∧ Aside0 (Kd.R k66 66 w' w0.heap.size (fun k_ => (P0_ k_ ∨ w.heap.size ≤ k_)) u9000_ x0_1) ∧ Aside0 (Kept w w' (fun k_ => P0_ k_)) ∧ Aside0 (Below w0.heap.size w0 w'))
  case atStart => exact ⟨(l0), (a1), (0), cq6, cq6, H', ⟨Nat.le_refl _⟩, ⟨by (with_reducible repeat (first | apply Kd.uV | apply Kd.uU | apply Kd.uT)); exact HO0.out⟩, ⟨cq17⟩, ⟨cq1⟩⟩
  case round =>
    clear H'
    obtain ⟨x0_1, x1_1, x5_1, rfl, rfl, HA, HK1, HO_0, HK, HB⟩ := hrel
    cases gk with
    | zero => exact absurd HA.out (by simp [laws_markEntryS.l0])
    | succ k1 =>
      have H := HA.out
      clear HA
      simp only [laws_markEntryS.l0] at H
      by_cases c3 : x5_1 < (x0_1.length : Int)
      rotate_left
      · rw [if_neg c3] at H
        have c3b0 := decide_eq_false c3
        clear c3
        simp only [Option.some.injEq, Prod.mk.injEq] at H
        obtain ⟨rfl, rfl⟩ := H
        obtain ⟨Ao27, co27, eo27⟩ := Kd.R_slice HO_0.out
        subst eo27
        go_wp2
        go_ret
        exact ⟨cq3, by (with_reducible repeat (first | apply Kd.uV | apply Kd.uU | apply Kd.uT)); exact HO_0.out, cq1, cq17⟩
      rw [if_pos c3] at H
      have c3b0 := decide_eq_true c3
      clear c3
      obtain ⟨c4b0, H⟩ := ifD H
      obtain ⟨y306, hy306⟩ : ∃ y_ : List (S66), y_ = (x0_1.set (x5_1 : Int).toNat (⟨x1_1, (⟨(rd_T66 x0_1 x5_1).f1.f0, (rd_T66 x0_1 x5_1).f1.f1, (rd_T66 x0_1 x5_1).f1.f2, (rd_T66 x0_1 x5_1).f1.f3, (rd_T66 x0_1 x5_1).f1.f4, (rd_T66 x0_1 x5_1).f1.f5⟩ : S64)⟩ : S66)) := ⟨_, rfl⟩
      replace H : ((some (y306.set (x5_1 : Int).toNat (⟨(rd_T66 y306 x5_1).f0, (⟨wrap64 (x1_1 + 1), (rd_T66 y306 x5_1).f1.f1, (rd_T66 y306 x5_1).f1.f2, (rd_T66 y306 x5_1).f1.f3, (rd_T66 y306 x5_1).f1.f4, (rd_T66 y306 x5_1).f1.f5⟩ : S64)⟩ : S66) : List (S66))).bind fun y307 => ((some (y307.set (x5_1 : Int).toNat (⟨(rd_T66 y307 x5_1).f0, (⟨(rd_T66 y307 x5_1).f1.f0, wrap64 ((wrap64 (x1_1 + 1)) + 1), (rd_T66 y307 x5_1).f1.f2, (rd_T66 y307 x5_1).f1.f3, (rd_T66 y307 x5_1).f1.f4, (rd_T66 y307 x5_1).f1.f5⟩ : S64)⟩ : S66) : List (S66))).bind fun y308 => ((some (y308.set (x5_1 : Int).toNat (⟨(rd_T66 y308 x5_1).f0, (⟨(rd_T66 y308 x5_1).f1.f0, (rd_T66 y308 x5_1).f1.f1, wrap64 ((wrap64 ((wrap64 (x1_1 + 1)) + 1)) + 1), (rd_T66 y308 x5_1).f1.f3, (rd_T66 y308 x5_1).f1.f4, (rd_T66 y308 x5_1).f1.f5⟩ : S64)⟩ : S66) : List (S66))).bind fun y309 => ((some (y309.set (x5_1 : Int).toNat (⟨(rd_T66 y309 x5_1).f0, (⟨(rd_T66 y309 x5_1).f1.f0, (rd_T66 y309 x5_1).f1.f1, (rd_T66 y309 x5_1).f1.f2, wrap64 ((wrap64 ((wrap64 ((wrap64 (x1_1 + 1)) + 1)) + 1)) + 1), (rd_T66 y309 x5_1).f1.f4, (rd_T66 y309 x5_1).f1.f5⟩ : S64)⟩ : S66) : List (S66))).bind fun y310 => ((some (y310.set (x5_1 : Int).toNat (⟨(rd_T66 y310 x5_1).f0, (⟨(rd_T66 y310 x5_1).f1.f0, (rd_T66 y310 x5_1).f1.f1, (rd_T66 y310 x5_1).f1.f2, (rd_T66 y310 x5_1).f1.f3, wrap64 ((wrap64 ((wrap64 ((wrap64 ((wrap64 (x1_1 + 1)) + 1)) + 1)) + 1)) + 1), (rd_T66 y310 x5_1).f1.f5⟩ : S64)⟩ : S66) : List (S66))).bind fun y311 => (laws_markEntryS.l0 k1 (y311.set (x5_1 : Int).toNat (⟨(rd_T66 y311 x5_1).f0, (⟨(rd_T66 y311 x5_1).f1.f0, (rd_T66 y311 x5_1).f1.f1, (rd_T66 y311 x5_1).f1.f2, (rd_T66 y311 x5_1).f1.f3, (rd_T66 y311 x5_1).f1.f4, wrap64 ((wrap64 ((wrap64 ((wrap64 ((wrap64 ((wrap64 (x1_1 + 1)) + 1)) + 1)) + 1)) + 1)) + 1)⟩ : S64)⟩ : S66)) (wrap64 ((wrap64 ((wrap64 ((wrap64 ((wrap64 ((wrap64 ((wrap64 (x1_1 + 1)) + 1)) + 1)) + 1)) + 1)) + 1)) + 1)) (wrap64 (x5_1 + 1)))))))) = some (r1, r2) := rpl hy306 H
      have Ny306 := Aside0.mk hy306
      clear hy306
      obtain ⟨y307, hy307⟩ : ∃ y_ : List (S66), y_ = (y306.set (x5_1 : Int).toNat (⟨(rd_T66 y306 x5_1).f0, (⟨wrap64 (x1_1 + 1), (rd_T66 y306 x5_1).f1.f1, (rd_T66 y306 x5_1).f1.f2, (rd_T66 y306 x5_1).f1.f3, (rd_T66 y306 x5_1).f1.f4, (rd_T66 y306 x5_1).f1.f5⟩ : S64)⟩ : S66)) := ⟨_, rfl⟩
      replace H : ((some (y307.set (x5_1 : Int).toNat (⟨(rd_T66 y307 x5_1).f0, (⟨(rd_T66 y307 x5_1).f1.f0, wrap64 ((wrap64 (x1_1 + 1)) + 1), (rd_T66 y307 x5_1).f1.f2, (rd_T66 y307 x5_1).f1.f3, (rd_T66 y307 x5_1).f1.f4, (rd_T66 y307 x5_1).f1.f5⟩ : S64)⟩ : S66) : List (S66))).bind fun y308 => ((some (y308.set (x5_1 : Int).toNat (⟨(rd_T66 y308 x5_1).f0, (⟨(rd_T66 y308 x5_1).f1.f0, (rd_T66 y308 x5_1).f1.f1, wrap64 ((wrap64 ((wrap64 (x1_1 + 1)) + 1)) + 1), (rd_T66 y308 x5_1).f1.f3, (rd_T66 y308 x5_1).f1.f4, (rd_T66 y308 x5_1).f1.f5⟩ : S64)⟩ : S66) : List (S66))).bind fun y309 => ((some (y309.set (x5_1 : Int).toNat (⟨(rd_T66 y309 x5_1).f0, (⟨(rd_T66 y309 x5_1).f1.f0, (rd_T66 y309 x5_1).f1.f1, (rd_T66 y309 x5_1).f1.f2, wrap64 ((wrap64 ((wrap64 ((wrap64 (x1_1 + 1)) + 1)) + 1)) + 1), (rd_T66 y309 x5_1).f1.f4, (rd_T66 y309 x5_1).f1.f5⟩ : S64)⟩ : S66) : List (S66))).bind fun y310 => ((some (y310.set (x5_1 : Int).toNat (⟨(rd_T66 y310 x5_1).f0, (⟨(rd_T66 y310 x5_1).f1.f0, (rd_T66 y310 x5_1).f1.f1, (rd_T66 y310 x5_1).f1.f2, (rd_T66 y310 x5_1).f1.f3, wrap64 ((wrap64 ((wrap64 ((wrap64 ((wrap64 (x1_1 + 1)) + 1)) + 1)) + 1)) + 1), (rd_T66 y310 x5_1).f1.f5⟩ : S64)⟩ : S66) : List (S66))).bind fun y311 => (laws_markEntryS.l0 k1 (y311.set (x5_1 : Int).toNat (⟨(rd_T66 y311 x5_1).f0, (⟨(rd_T66 y311 x5_1).f1.f0, (rd_T66 y311 x5_1).f1.f1, (rd_T66 y311 x5_1).f1.f2, (rd_T66 y311 x5_1).f1.f3, (rd_T66 y311 x5_1).f1.f4, wrap64 ((wrap64 ((wrap64 ((wrap64 ((wrap64 ((wrap64 (x1_1 + 1)) + 1)) + 1)) + 1)) + 1)) + 1)⟩ : S64)⟩ : S66)) (wrap64 ((wrap64 ((wrap64 ((wrap64 ((wrap64 ((wrap64 ((wrap64 (x1_1 + 1)) + 1)) + 1)) + 1)) + 1)) + 1)) + 1)) (wrap64 (x5_1 + 1))))))) = some (r1, r2) := rpl hy307 H
      have Ny307 := Aside0.mk hy307
      clear hy307
      obtain ⟨y308, hy308⟩ : ∃ y_ : List (S66), y_ = (y307.set (x5_1 : Int).toNat (⟨(rd_T66 y307 x5_1).f0, (⟨(rd_T66 y307 x5_1).f1.f0, wrap64 ((wrap64 (x1_1 + 1)) + 1), (rd_T66 y307 x5_1).f1.f2, (rd_T66 y307 x5_1).f1.f3, (rd_T66 y307 x5_1).f1.f4, (rd_T66 y307 x5_1).f1.f5⟩ : S64)⟩ : S66)) := ⟨_, rfl⟩
      replace H : ((some (y308.set (x5_1 : Int).toNat (⟨(rd_T66 y308 x5_1).f0, (⟨(rd_T66 y308 x5_1).f1.f0, (rd_T66 y308 x5_1).f1.f1, wrap64 ((wrap64 ((wrap64 (x1_1 + 1)) + 1)) + 1), (rd_T66 y308 x5_1).f1.f3, (rd_T66 y308 x5_1).f1.f4, (rd_T66 y308 x5_1).f1.f5⟩ : S64)⟩ : S66) : List (S66))).bind fun y309 => ((some (y309.set (x5_1 : Int).toNat (⟨(rd_T66 y309 x5_1).f0, (⟨(rd_T66 y309 x5_1).f1.f0, (rd_T66 y309 x5_1).f1.f1, (rd_T66 y309 x5_1).f1.f2, wrap64 ((wrap64 ((wrap64 ((wrap64 (x1_1 + 1)) + 1)) + 1)) + 1), (rd_T66 y309 x5_1).f1.f4, (rd_T66 y309 x5_1).f1.f5⟩ : S64)⟩ : S66) : List (S66))).bind fun y310 => ((some (y310.set (x5_1 : Int).toNat (⟨(rd_T66 y310 x5_1).f0, (⟨(rd_T66 y310 x5_1).f1.f0, (rd_T66 y310 x5_1).f1.f1, (rd_T66 y310 x5_1).f1.f2, (rd_T66 y310 x5_1).f1.f3, wrap64 ((wrap64 ((wrap64 ((wrap64 ((wrap64 (x1_1 + 1)) + 1)) + 1)) + 1)) + 1), (rd_T66 y310 x5_1).f1.f5⟩ : S64)⟩ : S66) : List (S66))).bind fun y311 => (laws_markEntryS.l0 k1 (y311.set (x5_1 : Int).toNat (⟨(rd_T66 y311 x5_1).f0, (⟨(rd_T66 y311 x5_1).f1.f0, (rd_T66 y311 x5_1).f1.f1, (rd_T66 y311 x5_1).f1.f2, (rd_T66 y311 x5_1).f1.f3, (rd_T66 y311 x5_1).f1.f4, wrap64 ((wrap64 ((wrap64 ((wrap64 ((wrap64 ((wrap64 (x1_1 + 1)) + 1)) + 1)) + 1)) + 1)) + 1)⟩ : S64)⟩ : S66)) (wrap64 ((wrap64 ((wrap64 ((wrap64 ((wrap64 ((wrap64 ((wrap64 (x1_1 + 1)) + 1)) + 1)) + 1)) + 1)) + 1)) + 1)) (wrap64 (x5_1 + 1)))))) = some (r1, r2) := rpl hy308 H
      have Ny308 := Aside0.mk hy308
      clear hy308
      obtain ⟨y309, hy309⟩ : ∃ y_ : List (S66), y_ = (y308.set (x5_1 : Int).toNat (⟨(rd_T66 y308 x5_1).f0, (⟨(rd_T66 y308 x5_1).f1.f0, (rd_T66 y308 x5_1).f1.f1, wrap64 ((wrap64 ((wrap64 (x1_1 + 1)) + 1)) + 1), (rd_T66 y308 x5_1).f1.f3, (rd_T66 y308 x5_1).f1.f4, (rd_T66 y308 x5_1).f1.f5⟩ : S64)⟩ : S66)) := ⟨_, rfl⟩
      replace H : ((some (y309.set (x5_1 : Int).toNat (⟨(rd_T66 y309 x5_1).f0, (⟨(rd_T66 y309 x5_1).f1.f0, (rd_T66 y309 x5_1).f1.f1, (rd_T66 y309 x5_1).f1.f2, wrap64 ((wrap64 ((wrap64 ((wrap64 (x1_1 + 1)) + 1)) + 1)) + 1), (rd_T66 y309 x5_1).f1.f4, (rd_T66 y309 x5_1).f1.f5⟩ : S64)⟩ : S66) : List (S66))).bind fun y310 => ((some (y310.set (x5_1 : Int).toNat (⟨(rd_T66 y310 x5_1).f0, (⟨(rd_T66 y310 x5_1).f1.f0, (rd_T66 y310 x5_1).f1.f1, (rd_T66 y310 x5_1).f1.f2, (rd_T66 y310 x5_1).f1.f3, wrap64 ((wrap64 ((wrap64 ((wrap64 ((wrap64 (x1_1 + 1)) + 1)) + 1)) + 1)) + 1), (rd_T66 y310 x5_1).f1.f5⟩ : S64)⟩ : S66) : List (S66))).bind fun y311 => (laws_markEntryS.l0 k1 (y311.set (x5_1 : Int).toNat (⟨(rd_T66 y311 x5_1).f0, (⟨(rd_T66 y311 x5_1).f1.f0, (rd_T66 y311 x5_1).f1.f1, (rd_T66 y311 x5_1).f1.f2, (rd_T66 y311 x5_1).f1.f3, (rd_T66 y311 x5_1).f1.f4, wrap64 ((wrap64 ((wrap64 ((wrap64 ((wrap64 ((wrap64 (x1_1 + 1)) + 1)) + 1)) + 1)) + 1)) + 1)⟩ : S64)⟩ : S66)) (wrap64 ((wrap64 ((wrap64 ((wrap64 ((wrap64 ((wrap64 ((wrap64 (x1_1 + 1)) + 1)) + 1)) + 1)) + 1)) + 1)) + 1)) (wrap64 (x5_1 + 1))))) = some (r1, r2) := rpl hy309 H
      have Ny309 := Aside0.mk hy309
      clear hy309
      obtain ⟨y310, hy310⟩ : ∃ y_ : List (S66), y_ = (y309.set (x5_1 : Int).toNat (⟨(rd_T66 y309 x5_1).f0, (⟨(rd_T66 y309 x5_1).f1.f0, (rd_T66 y309 x5_1).f1.f1, (rd_T66 y309 x5_1).f1.f2, wrap64 ((wrap64 ((wrap64 ((wrap64 (x1_1 + 1)) + 1)) + 1)) + 1), (rd_T66 y309 x5_1).f1.f4, (rd_T66 y309 x5_1).f1.f5⟩ : S64)⟩ : S66)) := ⟨_, rfl⟩
      replace H : ((some (y310.set (x5_1 : Int).toNat (⟨(rd_T66 y310 x5_1).f0, (⟨(rd_T66 y310 x5_1).f1.f0, (rd_T66 y310 x5_1).f1.f1, (rd_T66 y310 x5_1).f1.f2, (rd_T66 y310 x5_1).f1.f3, wrap64 ((wrap64 ((wrap64 ((wrap64 ((wrap64 (x1_1 + 1)) + 1)) + 1)) + 1)) + 1), (rd_T66 y310 x5_1).f1.f5⟩ : S64)⟩ : S66) : List (S66))).bind fun y311 => (laws_markEntryS.l0 k1 (y311.set (x5_1 : Int).toNat (⟨(rd_T66 y311 x5_1).f0, (⟨(rd_T66 y311 x5_1).f1.f0, (rd_T66 y311 x5_1).f1.f1, (rd_T66 y311 x5_1).f1.f2, (rd_T66 y311 x5_1).f1.f3, (rd_T66 y311 x5_1).f1.f4, wrap64 ((wrap64 ((wrap64 ((wrap64 ((wrap64 ((wrap64 (x1_1 + 1)) + 1)) + 1)) + 1)) + 1)) + 1)⟩ : S64)⟩ : S66)) (wrap64 ((wrap64 ((wrap64 ((wrap64 ((wrap64 ((wrap64 ((wrap64 (x1_1 + 1)) + 1)) + 1)) + 1)) + 1)) + 1)) + 1)) (wrap64 (x5_1 + 1)))) = some (r1, r2) := rpl hy310 H
      have Ny310 := Aside0.mk hy310
      clear hy310
      obtain ⟨y311, hy311⟩ : ∃ y_ : List (S66), y_ = (y310.set (x5_1 : Int).toNat (⟨(rd_T66 y310 x5_1).f0, (⟨(rd_T66 y310 x5_1).f1.f0, (rd_T66 y310 x5_1).f1.f1, (rd_T66 y310 x5_1).f1.f2, (rd_T66 y310 x5_1).f1.f3, wrap64 ((wrap64 ((wrap64 ((wrap64 ((wrap64 (x1_1 + 1)) + 1)) + 1)) + 1)) + 1), (rd_T66 y310 x5_1).f1.f5⟩ : S64)⟩ : S66)) := ⟨_, rfl⟩
      replace H : (laws_markEntryS.l0 k1 (y311.set (x5_1 : Int).toNat (⟨(rd_T66 y311 x5_1).f0, (⟨(rd_T66 y311 x5_1).f1.f0, (rd_T66 y311 x5_1).f1.f1, (rd_T66 y311 x5_1).f1.f2, (rd_T66 y311 x5_1).f1.f3, (rd_T66 y311 x5_1).f1.f4, wrap64 ((wrap64 ((wrap64 ((wrap64 ((wrap64 ((wrap64 (x1_1 + 1)) + 1)) + 1)) + 1)) + 1)) + 1)⟩ : S64)⟩ : S66)) (wrap64 ((wrap64 ((wrap64 ((wrap64 ((wrap64 ((wrap64 ((wrap64 (x1_1 + 1)) + 1)) + 1)) + 1)) + 1)) + 1)) + 1)) (wrap64 (x5_1 + 1))) = some (r1, r2) := rpl hy311 H
      have Ny311 := Aside0.mk hy311
      clear hy311
      obtain ⟨y312, hy312⟩ : ∃ y_ : List (S66), y_ = (y311.set (x5_1 : Int).toNat (⟨(rd_T66 y311 x5_1).f0, (⟨(rd_T66 y311 x5_1).f1.f0, (rd_T66 y311 x5_1).f1.f1, (rd_T66 y311 x5_1).f1.f2, (rd_T66 y311 x5_1).f1.f3, (rd_T66 y311 x5_1).f1.f4, wrap64 ((wrap64 ((wrap64 ((wrap64 ((wrap64 ((wrap64 (x1_1 + 1)) + 1)) + 1)) + 1)) + 1)) + 1)⟩ : S64)⟩ : S66)) := ⟨_, rfl⟩
      replace H : (laws_markEntryS.l0 k1 y312 (wrap64 ((wrap64 ((wrap64 ((wrap64 ((wrap64 ((wrap64 ((wrap64 (x1_1 + 1)) + 1)) + 1)) + 1)) + 1)) + 1)) + 1)) (wrap64 (x5_1 + 1))) = some (r1, r2) := rpl hy312 H
      have Ny312 := Aside0.mk hy312
      clear hy312
      have H' := Aside0.mk H
      clear H
      obtain ⟨Ao12, co12, eo12⟩ := Kd.R_slice HO_0.out
      subst eo12
      have p5 : 0 ≤ (x5_1 : Int) := of_decide_eq_true uL
      have q5 : (x5_1 : Int) < ((x0_1.length : Int) : Int) := of_decide_eq_true uL
      obtain ⟨go5, co5, eo5, gb5, gl5, cl5, HG5⟩ := Kd.R_form HO_0.out (by omega)
      (first | cases eo5 | (injection eo5 with ea_ en_ ec_; (first | subst ea_ | (injection ea_ with ea_; subst ea_)); subst ec_; clear en_))
      have GB5 := Aside0.mk gb5
      have GG5 := Aside0.mk HG5
      clear gb5 gl5 HG5
      have HMgo5 := Aside0.mk (show (P0_ go5 ∨ w.heap.size ≤ go5) from (HO_0.out.1 _ rfl))
      obtain ⟨ce5, hcl5, hM5, hcc5, hfr5⟩ := Kd.R_elem HO_0.out z66 (x5_1 : Int) p5 q5
      obtain rfl := k66_openM hM5
      have hx5_0 : wr.cell? ⟨go5, (x5_1 : Int).toNat * 7, none⟩ = some (.int .i64 ((rd_T66 x0_1 x5_1).f0)) := hcc5 0 _ rfl
      have hx5_1 : wr.cell? ⟨go5, (x5_1 : Int).toNat * 7 + 1, none⟩ = some (.int .i64 ((rd_T66 x0_1 x5_1).f1.f0)) := hcc5 1 _ rfl
      have hx5_2 : wr.cell? ⟨go5, (x5_1 : Int).toNat * 7 + 2, none⟩ = some (.int .i64 ((rd_T66 x0_1 x5_1).f1.f1)) := hcc5 2 _ rfl
      have hx5_3 : wr.cell? ⟨go5, (x5_1 : Int).toNat * 7 + 3, none⟩ = some (.int .i64 ((rd_T66 x0_1 x5_1).f1.f2)) := hcc5 3 _ rfl
      have hx5_4 : wr.cell? ⟨go5, (x5_1 : Int).toNat * 7 + 4, none⟩ = some (.int .i64 ((rd_T66 x0_1 x5_1).f1.f3)) := hcc5 4 _ rfl
      have hx5_5 : wr.cell? ⟨go5, (x5_1 : Int).toNat * 7 + 5, none⟩ = some (.int .i64 ((rd_T66 x0_1 x5_1).f1.f4)) := hcc5 5 _ rfl
      have hx5_6 : wr.cell? ⟨go5, (x5_1 : Int).toNat * 7 + 6, none⟩ = some (.int .i64 ((rd_T66 x0_1 x5_1).f1.f5)) := hcc5 6 _ rfl
      have hf5_0 : wr.frozen? ⟨go5, (x5_1 : Int).toNat * 7, none⟩ = false := hfr5 0
      have hf5_1 : wr.frozen? ⟨go5, (x5_1 : Int).toNat * 7 + 1, none⟩ = false := hfr5 1
      have hf5_2 : wr.frozen? ⟨go5, (x5_1 : Int).toNat * 7 + 2, none⟩ = false := hfr5 2
      have hf5_3 : wr.frozen? ⟨go5, (x5_1 : Int).toNat * 7 + 3, none⟩ = false := hfr5 3
      have hf5_4 : wr.frozen? ⟨go5, (x5_1 : Int).toNat * 7 + 4, none⟩ = false := hfr5 4
      have hf5_5 : wr.frozen? ⟨go5, (x5_1 : Int).toNat * 7 + 5, none⟩ = false := hfr5 5
      have hf5_6 : wr.frozen? ⟨go5, (x5_1 : Int).toNat * 7 + 6, none⟩ = false := hfr5 6
      clear hcl5 hcc5 hfr5 hM5
      replace p5 := eq_true p5
      replace q5 := eq_true q5
      have HX13 := Aside0.mk (show Kd.R k66 66 wr w0.heap.size (fun k_ => (P0_ k_ ∨ w.heap.size ≤ k_)) (.slice (some ⟨go5, 0, none⟩) x0_1.length co12) x0_1 from (rSR HO_0.out))
      obtain ⟨ce13, hcl13, hM13, hcc13, hfr13⟩ := Kd.R_elem HX13.out z66 (x5_1 : Int) (of_decide_eq_true uL) (by have h_ : (x5_1 : Int) < ((x0_1.length : Int) : Int) := of_decide_eq_true uL; first | exact h_ | (have e_ := (Kd.uQ HO_0.out).1; omega) | simpa using h_)
      obtain rfl := k66_openM hM13
      have HP13 := Kd.R_seg HX13.out (x5_1 : Int) (of_decide_eq_true uL) (by have h_ : (x5_1 : Int) < ((x0_1.length : Int) : Int) := of_decide_eq_true uL; first | exact h_ | (have e_ := (Kd.uQ HO_0.out).1; omega) | simpa using h_) (seg := [.int .i64 x1_1]) (j := 0) hcl13 hcc13 (show 1 ≤ 7 from by decide) (x' := (⟨x1_1, (⟨(rd_T66 x0_1 x5_1).f1.f0, (rd_T66 x0_1 x5_1).f1.f1, (rd_T66 x0_1 x5_1).f1.f2, (rd_T66 x0_1 x5_1).f1.f3, (rd_T66 x0_1 x5_1).f1.f4, (rd_T66 x0_1 x5_1).f1.f5⟩ : S64)⟩ : S66)) (k66_mkM _ _ _ (⟨x1_1, (⟨(rd_T66 x0_1 x5_1).f1.f0, (rd_T66 x0_1 x5_1).f1.f1, (rd_T66 x0_1 x5_1).f1.f2, (rd_T66 x0_1 x5_1).f1.f3, (rd_T66 x0_1 x5_1).f1.f4, (rd_T66 x0_1 x5_1).f1.f5⟩ : S64)⟩ : S66) ) (fun _ hk => hk)
      have hx13_0 := hcc13 0 _ rfl
      (try simp only [show (k66).sz = 7 from rfl, Nat.mul_one, Nat.add_zero] at hx13_0)
      have hf13_0 := hfr13 0
      (try simp only [show (k66).sz = 7 from rfl, Nat.mul_one, Nat.add_zero] at hf13_0)
      clear hcl13 hcc13 hfr13 hM13
      go_wp2_with (first | ((with_reducible refine gate_store (t := 3) (p := 16) rfl ?_); refine store_event (t := 3) (p := 16) (v := ?vo_w14) (w1 := (wr.setCell ⟨go5, (x5_1 : Int).toNat * 7, none⟩ (.int .i64 x1_1))) ?hg ?ho ?hn ?hr ?_; (case ho => rfl); (case hg => rfl); (case hn => rfl); (case hr => first | (go_simp; done) | (go_simp; rfl)); intro w14 hw; have hg : wr.grownBy w14 (some go5) := (by rw [hw]; exact HP13.2); have hp_ : Kd.R k66 66 w14 w0.heap.size (fun k_ => (P0_ k_ ∨ w.heap.size ≤ k_)) (.slice (some ⟨go5, 0, none⟩) x0_1.length co12) y306 := (by rw [hw, Ny306.out]; exact HP13.1); clear HP13; replace HB := Aside0.mk ((by rw [hw]; exact below_set (HB.out) GB5.out : Below w0.heap.size w0 w14)); replace HK := Aside0.mk (Kept.of_grown (S := (fun k_ => P0_ k_)) hg cq17 (fun k_ e_ => (HO_0.out.1 k_ e_))); replace HO_0 := Aside0.mk (hp_); clear hg hw hp_; have p6 : 0 ≤ (x5_1 : Int) := of_decide_eq_true uL; have q6 : (x5_1 : Int) < ((x0_1.length : Int) : Int) := of_decide_eq_true uL; obtain ⟨ce6, hcl6, hM6, hcc6, hfr6⟩ := Kd.R_elem HO_0.out z66 (x5_1 : Int) p6 q6; obtain rfl := k66_openM hM6; have hx6_0 : w14.cell? ⟨go5, (x5_1 : Int).toNat * 7, none⟩ = some (.int .i64 ((rd_T66 y306 x5_1).f0)) := hcc6 0 _ rfl; have hx6_1 : w14.cell? ⟨go5, (x5_1 : Int).toNat * 7 + 1, none⟩ = some (.int .i64 ((rd_T66 y306 x5_1).f1.f0)) := hcc6 1 _ rfl; have hx6_2 : w14.cell? ⟨go5, (x5_1 : Int).toNat * 7 + 2, none⟩ = some (.int .i64 ((rd_T66 y306 x5_1).f1.f1)) := hcc6 2 _ rfl; have hx6_3 : w14.cell? ⟨go5, (x5_1 : Int).toNat * 7 + 3, none⟩ = some (.int .i64 ((rd_T66 y306 x5_1).f1.f2)) := hcc6 3 _ rfl; have hx6_4 : w14.cell? ⟨go5, (x5_1 : Int).toNat * 7 + 4, none⟩ = some (.int .i64 ((rd_T66 y306 x5_1).f1.f3)) := hcc6 4 _ rfl; have hx6_5 : w14.cell? ⟨go5, (x5_1 : Int).toNat * 7 + 5, none⟩ = some (.int .i64 ((rd_T66 y306 x5_1).f1.f4)) := hcc6 5 _ rfl; have hx6_6 : w14.cell? ⟨go5, (x5_1 : Int).toNat * 7 + 6, none⟩ = some (.int .i64 ((rd_T66 y306 x5_1).f1.f5)) := hcc6 6 _ rfl; have hf6_0 : w14.frozen? ⟨go5, (x5_1 : Int).toNat * 7, none⟩ = false := hfr6 0; have hf6_1 : w14.frozen? ⟨go5, (x5_1 : Int).toNat * 7 + 1, none⟩ = false := hfr6 1; have hf6_2 : w14.frozen? ⟨go5, (x5_1 : Int).toNat * 7 + 2, none⟩ = false := hfr6 2; have hf6_3 : w14.frozen? ⟨go5, (x5_1 : Int).toNat * 7 + 3, none⟩ = false := hfr6 3; have hf6_4 : w14.frozen? ⟨go5, (x5_1 : Int).toNat * 7 + 4, none⟩ = false := hfr6 4; have hf6_5 : w14.frozen? ⟨go5, (x5_1 : Int).toNat * 7 + 5, none⟩ = false := hfr6 5; have hf6_6 : w14.frozen? ⟨go5, (x5_1 : Int).toNat * 7 + 6, none⟩ = false := hfr6 6; clear hcl6 hcc6 hfr6 hM6; replace p6 := eq_true p6; replace q6 := eq_true q6; have HX15 := Aside0.mk (show Kd.R k66 66 w14 w0.heap.size (fun k_ => (P0_ k_ ∨ w.heap.size ≤ k_)) (.slice (some ⟨go5, 0, none⟩) x0_1.length co12) y306 from (rSR HO_0.out)); obtain ⟨ce15, hcl15, hM15, hcc15, hfr15⟩ := Kd.R_elem HX15.out z66 (x5_1 : Int) (of_decide_eq_true uL) (by have h_ : (x5_1 : Int) < ((x0_1.length : Int) : Int) := of_decide_eq_true uL; first | exact h_ | (have e_ := (Kd.uQ HO_0.out).1; omega) | simpa using h_); obtain rfl := k66_openM hM15; have HP15 := Kd.R_seg HX15.out (x5_1 : Int) (of_decide_eq_true uL) (by have h_ : (x5_1 : Int) < ((x0_1.length : Int) : Int) := of_decide_eq_true uL; first | exact h_ | (have e_ := (Kd.uQ HO_0.out).1; omega) | simpa using h_) (seg := [.int .i64 (wrap64 (x1_1 + 1))]) (j := 1) hcl15 hcc15 (show 2 ≤ 7 from by decide) (x' := (⟨(rd_T66 y306 x5_1).f0, (⟨wrap64 (x1_1 + 1), (rd_T66 y306 x5_1).f1.f1, (rd_T66 y306 x5_1).f1.f2, (rd_T66 y306 x5_1).f1.f3, (rd_T66 y306 x5_1).f1.f4, (rd_T66 y306 x5_1).f1.f5⟩ : S64)⟩ : S66)) (k66_mkM _ _ _ (⟨(rd_T66 y306 x5_1).f0, (⟨wrap64 (x1_1 + 1), (rd_T66 y306 x5_1).f1.f1, (rd_T66 y306 x5_1).f1.f2, (rd_T66 y306 x5_1).f1.f3, (rd_T66 y306 x5_1).f1.f4, (rd_T66 y306 x5_1).f1.f5⟩ : S64)⟩ : S66) ) (fun _ hk => hk); have hx15_1 := hcc15 1 _ rfl; (try simp only [show (k66).sz = 7 from rfl, Nat.mul_one, Nat.add_zero] at hx15_1); have hf15_1 := hfr15 1; (try simp only [show (k66).sz = 7 from rfl, Nat.mul_one, Nat.add_zero] at hf15_1); clear hcl15 hcc15 hfr15 hM15) | ((with_reducible refine gate_store (t := 3) (p := 24) rfl ?_); refine store_event (t := 3) (p := 24) (v := ?vo_w16) (w1 := (w14.setCell ⟨go5, (x5_1 : Int).toNat * 7 + 1, none⟩ (.int .i64 (wrap64 (x1_1 + 1))))) ?hg ?ho ?hn ?hr ?_; (case ho => rfl); (case hg => rfl); (case hn => rfl); (case hr => first | (go_simp; done) | (go_simp; rfl)); intro w16 hw; have hg : w14.grownBy w16 (some go5) := (by rw [hw]; exact HP15.2); have hp_ : Kd.R k66 66 w16 w0.heap.size (fun k_ => (P0_ k_ ∨ w.heap.size ≤ k_)) (.slice (some ⟨go5, 0, none⟩) x0_1.length co12) y307 := (by rw [hw, Ny307.out]; exact HP15.1); clear HP15; replace HB := Aside0.mk ((by rw [hw]; exact below_set (HB.out) GB5.out : Below w0.heap.size w0 w16)); replace HK := Aside0.mk (Kept.of_grown (S := (fun k_ => P0_ k_)) hg cq17 (fun k_ e_ => (HO_0.out.1 k_ e_))); replace HO_0 := Aside0.mk (hp_); clear hg hw hp_; have p7 : 0 ≤ (x5_1 : Int) := of_decide_eq_true uL; have q7 : (x5_1 : Int) < ((x0_1.length : Int) : Int) := of_decide_eq_true uL; obtain ⟨ce7, hcl7, hM7, hcc7, hfr7⟩ := Kd.R_elem HO_0.out z66 (x5_1 : Int) p7 q7; obtain rfl := k66_openM hM7; have hx7_0 : w16.cell? ⟨go5, (x5_1 : Int).toNat * 7, none⟩ = some (.int .i64 ((rd_T66 y307 x5_1).f0)) := hcc7 0 _ rfl; have hx7_1 : w16.cell? ⟨go5, (x5_1 : Int).toNat * 7 + 1, none⟩ = some (.int .i64 ((rd_T66 y307 x5_1).f1.f0)) := hcc7 1 _ rfl; have hx7_2 : w16.cell? ⟨go5, (x5_1 : Int).toNat * 7 + 2, none⟩ = some (.int .i64 ((rd_T66 y307 x5_1).f1.f1)) := hcc7 2 _ rfl; have hx7_3 : w16.cell? ⟨go5, (x5_1 : Int).toNat * 7 + 3, none⟩ = some (.int .i64 ((rd_T66 y307 x5_1).f1.f2)) := hcc7 3 _ rfl; have hx7_4 : w16.cell? ⟨go5, (x5_1 : Int).toNat * 7 + 4, none⟩ = some (.int .i64 ((rd_T66 y307 x5_1).f1.f3)) := hcc7 4 _ rfl; have hx7_5 : w16.cell? ⟨go5, (x5_1 : Int).toNat * 7 + 5, none⟩ = some (.int .i64 ((rd_T66 y307 x5_1).f1.f4)) := hcc7 5 _ rfl; have hx7_6 : w16.cell? ⟨go5, (x5_1 : Int).toNat * 7 + 6, none⟩ = some (.int .i64 ((rd_T66 y307 x5_1).f1.f5)) := hcc7 6 _ rfl; have hf7_0 : w16.frozen? ⟨go5, (x5_1 : Int).toNat * 7, none⟩ = false := hfr7 0; have hf7_1 : w16.frozen? ⟨go5, (x5_1 : Int).toNat * 7 + 1, none⟩ = false := hfr7 1; have hf7_2 : w16.frozen? ⟨go5, (x5_1 : Int).toNat * 7 + 2, none⟩ = false := hfr7 2; have hf7_3 : w16.frozen? ⟨go5, (x5_1 : Int).toNat * 7 + 3, none⟩ = false := hfr7 3; have hf7_4 : w16.frozen? ⟨go5, (x5_1 : Int).toNat * 7 + 4, none⟩ = false := hfr7 4; have hf7_5 : w16.frozen? ⟨go5, (x5_1 : Int).toNat * 7 + 5, none⟩ = false := hfr7 5; have hf7_6 : w16.frozen? ⟨go5, (x5_1 : Int).toNat * 7 + 6, none⟩ = false := hfr7 6; clear hcl7 hcc7 hfr7 hM7; replace p7 := eq_true p7; replace q7 := eq_true q7; have HX17 := Aside0.mk (show Kd.R k66 66 w16 w0.heap.size (fun k_ => (P0_ k_ ∨ w.heap.size ≤ k_)) (.slice (some ⟨go5, 0, none⟩) x0_1.length co12) y307 from (rSR HO_0.out)); obtain ⟨ce17, hcl17, hM17, hcc17, hfr17⟩ := Kd.R_elem HX17.out z66 (x5_1 : Int) (of_decide_eq_true uL) (by have h_ : (x5_1 : Int) < ((x0_1.length : Int) : Int) := of_decide_eq_true uL; first | exact h_ | (have e_ := (Kd.uQ HO_0.out).1; omega) | simpa using h_); obtain rfl := k66_openM hM17; have HP17 := Kd.R_seg HX17.out (x5_1 : Int) (of_decide_eq_true uL) (by have h_ : (x5_1 : Int) < ((x0_1.length : Int) : Int) := of_decide_eq_true uL; first | exact h_ | (have e_ := (Kd.uQ HO_0.out).1; omega) | simpa using h_) (seg := [.int .i64 (wrap64 ((wrap64 (x1_1 + 1)) + 1))]) (j := 2) hcl17 hcc17 (show 3 ≤ 7 from by decide) (x' := (⟨(rd_T66 y307 x5_1).f0, (⟨(rd_T66 y307 x5_1).f1.f0, wrap64 ((wrap64 (x1_1 + 1)) + 1), (rd_T66 y307 x5_1).f1.f2, (rd_T66 y307 x5_1).f1.f3, (rd_T66 y307 x5_1).f1.f4, (rd_T66 y307 x5_1).f1.f5⟩ : S64)⟩ : S66)) (k66_mkM _ _ _ (⟨(rd_T66 y307 x5_1).f0, (⟨(rd_T66 y307 x5_1).f1.f0, wrap64 ((wrap64 (x1_1 + 1)) + 1), (rd_T66 y307 x5_1).f1.f2, (rd_T66 y307 x5_1).f1.f3, (rd_T66 y307 x5_1).f1.f4, (rd_T66 y307 x5_1).f1.f5⟩ : S64)⟩ : S66) ) (fun _ hk => hk); have hx17_2 := hcc17 2 _ rfl; (try simp only [show (k66).sz = 7 from rfl, Nat.mul_one, Nat.add_zero] at hx17_2); have hf17_2 := hfr17 2; (try simp only [show (k66).sz = 7 from rfl, Nat.mul_one, Nat.add_zero] at hf17_2); clear hcl17 hcc17 hfr17 hM17) | ((with_reducible refine gate_store (t := 3) (p := 32) rfl ?_); refine store_event (t := 3) (p := 32) (v := ?vo_w18) (w1 := (w16.setCell ⟨go5, (x5_1 : Int).toNat * 7 + 2, none⟩ (.int .i64 (wrap64 ((wrap64 (x1_1 + 1)) + 1))))) ?hg ?ho ?hn ?hr ?_; (case ho => rfl); (case hg => rfl); (case hn => rfl); (case hr => first | (go_simp; done) | (go_simp; rfl)); intro w18 hw; have hg : w16.grownBy w18 (some go5) := (by rw [hw]; exact HP17.2); have hp_ : Kd.R k66 66 w18 w0.heap.size (fun k_ => (P0_ k_ ∨ w.heap.size ≤ k_)) (.slice (some ⟨go5, 0, none⟩) x0_1.length co12) y308 := (by rw [hw, Ny308.out]; exact HP17.1); clear HP17; replace HB := Aside0.mk ((by rw [hw]; exact below_set (HB.out) GB5.out : Below w0.heap.size w0 w18)); replace HK := Aside0.mk (Kept.of_grown (S := (fun k_ => P0_ k_)) hg cq17 (fun k_ e_ => (HO_0.out.1 k_ e_))); replace HO_0 := Aside0.mk (hp_); clear hg hw hp_; have p8 : 0 ≤ (x5_1 : Int) := of_decide_eq_true uL; have q8 : (x5_1 : Int) < ((x0_1.length : Int) : Int) := of_decide_eq_true uL; obtain ⟨ce8, hcl8, hM8, hcc8, hfr8⟩ := Kd.R_elem HO_0.out z66 (x5_1 : Int) p8 q8; obtain rfl := k66_openM hM8; have hx8_0 : w18.cell? ⟨go5, (x5_1 : Int).toNat * 7, none⟩ = some (.int .i64 ((rd_T66 y308 x5_1).f0)) := hcc8 0 _ rfl; have hx8_1 : w18.cell? ⟨go5, (x5_1 : Int).toNat * 7 + 1, none⟩ = some (.int .i64 ((rd_T66 y308 x5_1).f1.f0)) := hcc8 1 _ rfl; have hx8_2 : w18.cell? ⟨go5, (x5_1 : Int).toNat * 7 + 2, none⟩ = some (.int .i64 ((rd_T66 y308 x5_1).f1.f1)) := hcc8 2 _ rfl; have hx8_3 : w18.cell? ⟨go5, (x5_1 : Int).toNat * 7 + 3, none⟩ = some (.int .i64 ((rd_T66 y308 x5_1).f1.f2)) := hcc8 3 _ rfl; have hx8_4 : w18.cell? ⟨go5, (x5_1 : Int).toNat * 7 + 4, none⟩ = some (.int .i64 ((rd_T66 y308 x5_1).f1.f3)) := hcc8 4 _ rfl; have hx8_5 : w18.cell? ⟨go5, (x5_1 : Int).toNat * 7 + 5, none⟩ = some (.int .i64 ((rd_T66 y308 x5_1).f1.f4)) := hcc8 5 _ rfl; have hx8_6 : w18.cell? ⟨go5, (x5_1 : Int).toNat * 7 + 6, none⟩ = some (.int .i64 ((rd_T66 y308 x5_1).f1.f5)) := hcc8 6 _ rfl; have hf8_0 : w18.frozen? ⟨go5, (x5_1 : Int).toNat * 7, none⟩ = false := hfr8 0; have hf8_1 : w18.frozen? ⟨go5, (x5_1 : Int).toNat * 7 + 1, none⟩ = false := hfr8 1; have hf8_2 : w18.frozen? ⟨go5, (x5_1 : Int).toNat * 7 + 2, none⟩ = false := hfr8 2; have hf8_3 : w18.frozen? ⟨go5, (x5_1 : Int).toNat * 7 + 3, none⟩ = false := hfr8 3; have hf8_4 : w18.frozen? ⟨go5, (x5_1 : Int).toNat * 7 + 4, none⟩ = false := hfr8 4; have hf8_5 : w18.frozen? ⟨go5, (x5_1 : Int).toNat * 7 + 5, none⟩ = false := hfr8 5; have hf8_6 : w18.frozen? ⟨go5, (x5_1 : Int).toNat * 7 + 6, none⟩ = false := hfr8 6; clear hcl8 hcc8 hfr8 hM8; replace p8 := eq_true p8; replace q8 := eq_true q8; have HX19 := Aside0.mk (show Kd.R k66 66 w18 w0.heap.size (fun k_ => (P0_ k_ ∨ w.heap.size ≤ k_)) (.slice (some ⟨go5, 0, none⟩) x0_1.length co12) y308 from (rSR HO_0.out)); obtain ⟨ce19, hcl19, hM19, hcc19, hfr19⟩ := Kd.R_elem HX19.out z66 (x5_1 : Int) (of_decide_eq_true uL) (by have h_ : (x5_1 : Int) < ((x0_1.length : Int) : Int) := of_decide_eq_true uL; first | exact h_ | (have e_ := (Kd.uQ HO_0.out).1; omega) | simpa using h_); obtain rfl := k66_openM hM19; have HP19 := Kd.R_seg HX19.out (x5_1 : Int) (of_decide_eq_true uL) (by have h_ : (x5_1 : Int) < ((x0_1.length : Int) : Int) := of_decide_eq_true uL; first | exact h_ | (have e_ := (Kd.uQ HO_0.out).1; omega) | simpa using h_) (seg := [.int .i64 (wrap64 ((wrap64 ((wrap64 (x1_1 + 1)) + 1)) + 1))]) (j := 3) hcl19 hcc19 (show 4 ≤ 7 from by decide) (x' := (⟨(rd_T66 y308 x5_1).f0, (⟨(rd_T66 y308 x5_1).f1.f0, (rd_T66 y308 x5_1).f1.f1, wrap64 ((wrap64 ((wrap64 (x1_1 + 1)) + 1)) + 1), (rd_T66 y308 x5_1).f1.f3, (rd_T66 y308 x5_1).f1.f4, (rd_T66 y308 x5_1).f1.f5⟩ : S64)⟩ : S66)) (k66_mkM _ _ _ (⟨(rd_T66 y308 x5_1).f0, (⟨(rd_T66 y308 x5_1).f1.f0, (rd_T66 y308 x5_1).f1.f1, wrap64 ((wrap64 ((wrap64 (x1_1 + 1)) + 1)) + 1), (rd_T66 y308 x5_1).f1.f3, (rd_T66 y308 x5_1).f1.f4, (rd_T66 y308 x5_1).f1.f5⟩ : S64)⟩ : S66) ) (fun _ hk => hk); have hx19_3 := hcc19 3 _ rfl; (try simp only [show (k66).sz = 7 from rfl, Nat.mul_one, Nat.add_zero] at hx19_3); have hf19_3 := hfr19 3; (try simp only [show (k66).sz = 7 from rfl, Nat.mul_one, Nat.add_zero] at hf19_3); clear hcl19 hcc19 hfr19 hM19) | ((with_reducible refine gate_store (t := 3) (p := 40) rfl ?_); refine store_event (t := 3) (p := 40) (v := ?vo_w20) (w1 := (w18.setCell ⟨go5, (x5_1 : Int).toNat * 7 + 3, none⟩ (.int .i64 (wrap64 ((wrap64 ((wrap64 (x1_1 + 1)) + 1)) + 1))))) ?hg ?ho ?hn ?hr ?_; (case ho => rfl); (case hg => rfl); (case hn => rfl); (case hr => first | (go_simp; done) | (go_simp; rfl)); intro w20 hw; have hg : w18.grownBy w20 (some go5) := (by rw [hw]; exact HP19.2); have hp_ : Kd.R k66 66 w20 w0.heap.size (fun k_ => (P0_ k_ ∨ w.heap.size ≤ k_)) (.slice (some ⟨go5, 0, none⟩) x0_1.length co12) y309 := (by rw [hw, Ny309.out]; exact HP19.1); clear HP19; replace HB := Aside0.mk ((by rw [hw]; exact below_set (HB.out) GB5.out : Below w0.heap.size w0 w20)); replace HK := Aside0.mk (Kept.of_grown (S := (fun k_ => P0_ k_)) hg cq17 (fun k_ e_ => (HO_0.out.1 k_ e_))); replace HO_0 := Aside0.mk (hp_); clear hg hw hp_; have p9 : 0 ≤ (x5_1 : Int) := of_decide_eq_true uL; have q9 : (x5_1 : Int) < ((x0_1.length : Int) : Int) := of_decide_eq_true uL; obtain ⟨ce9, hcl9, hM9, hcc9, hfr9⟩ := Kd.R_elem HO_0.out z66 (x5_1 : Int) p9 q9; obtain rfl := k66_openM hM9; have hx9_0 : w20.cell? ⟨go5, (x5_1 : Int).toNat * 7, none⟩ = some (.int .i64 ((rd_T66 y309 x5_1).f0)) := hcc9 0 _ rfl; have hx9_1 : w20.cell? ⟨go5, (x5_1 : Int).toNat * 7 + 1, none⟩ = some (.int .i64 ((rd_T66 y309 x5_1).f1.f0)) := hcc9 1 _ rfl; have hx9_2 : w20.cell? ⟨go5, (x5_1 : Int).toNat * 7 + 2, none⟩ = some (.int .i64 ((rd_T66 y309 x5_1).f1.f1)) := hcc9 2 _ rfl; have hx9_3 : w20.cell? ⟨go5, (x5_1 : Int).toNat * 7 + 3, none⟩ = some (.int .i64 ((rd_T66 y309 x5_1).f1.f2)) := hcc9 3 _ rfl; have hx9_4 : w20.cell? ⟨go5, (x5_1 : Int).toNat * 7 + 4, none⟩ = some (.int .i64 ((rd_T66 y309 x5_1).f1.f3)) := hcc9 4 _ rfl; have hx9_5 : w20.cell? ⟨go5, (x5_1 : Int).toNat * 7 + 5, none⟩ = some (.int .i64 ((rd_T66 y309 x5_1).f1.f4)) := hcc9 5 _ rfl; have hx9_6 : w20.cell? ⟨go5, (x5_1 : Int).toNat * 7 + 6, none⟩ = some (.int .i64 ((rd_T66 y309 x5_1).f1.f5)) := hcc9 6 _ rfl; have hf9_0 : w20.frozen? ⟨go5, (x5_1 : Int).toNat * 7, none⟩ = false := hfr9 0; have hf9_1 : w20.frozen? ⟨go5, (x5_1 : Int).toNat * 7 + 1, none⟩ = false := hfr9 1; have hf9_2 : w20.frozen? ⟨go5, (x5_1 : Int).toNat * 7 + 2, none⟩ = false := hfr9 2; have hf9_3 : w20.frozen? ⟨go5, (x5_1 : Int).toNat * 7 + 3, none⟩ = false := hfr9 3; have hf9_4 : w20.frozen? ⟨go5, (x5_1 : Int).toNat * 7 + 4, none⟩ = false := hfr9 4; have hf9_5 : w20.frozen? ⟨go5, (x5_1 : Int).toNat * 7 + 5, none⟩ = false := hfr9 5; have hf9_6 : w20.frozen? ⟨go5, (x5_1 : Int).toNat * 7 + 6, none⟩ = false := hfr9 6; clear hcl9 hcc9 hfr9 hM9; replace p9 := eq_true p9; replace q9 := eq_true q9; have HX21 := Aside0.mk (show Kd.R k66 66 w20 w0.heap.size (fun k_ => (P0_ k_ ∨ w.heap.size ≤ k_)) (.slice (some ⟨go5, 0, none⟩) x0_1.length co12) y309 from (rSR HO_0.out)); obtain ⟨ce21, hcl21, hM21, hcc21, hfr21⟩ := Kd.R_elem HX21.out z66 (x5_1 : Int) (of_decide_eq_true uL) (by have h_ : (x5_1 : Int) < ((x0_1.length : Int) : Int) := of_decide_eq_true uL; first | exact h_ | (have e_ := (Kd.uQ HO_0.out).1; omega) | simpa using h_); obtain rfl := k66_openM hM21; have HP21 := Kd.R_seg HX21.out (x5_1 : Int) (of_decide_eq_true uL) (by have h_ : (x5_1 : Int) < ((x0_1.length : Int) : Int) := of_decide_eq_true uL; first | exact h_ | (have e_ := (Kd.uQ HO_0.out).1; omega) | simpa using h_) (seg := [.int .i64 (wrap64 ((wrap64 ((wrap64 ((wrap64 (x1_1 + 1)) + 1)) + 1)) + 1))]) (j := 4) hcl21 hcc21 (show 5 ≤ 7 from by decide) (x' := (⟨(rd_T66 y309 x5_1).f0, (⟨(rd_T66 y309 x5_1).f1.f0, (rd_T66 y309 x5_1).f1.f1, (rd_T66 y309 x5_1).f1.f2, wrap64 ((wrap64 ((wrap64 ((wrap64 (x1_1 + 1)) + 1)) + 1)) + 1), (rd_T66 y309 x5_1).f1.f4, (rd_T66 y309 x5_1).f1.f5⟩ : S64)⟩ : S66)) (k66_mkM _ _ _ (⟨(rd_T66 y309 x5_1).f0, (⟨(rd_T66 y309 x5_1).f1.f0, (rd_T66 y309 x5_1).f1.f1, (rd_T66 y309 x5_1).f1.f2, wrap64 ((wrap64 ((wrap64 ((wrap64 (x1_1 + 1)) + 1)) + 1)) + 1), (rd_T66 y309 x5_1).f1.f4, (rd_T66 y309 x5_1).f1.f5⟩ : S64)⟩ : S66) ) (fun _ hk => hk); have hx21_4 := hcc21 4 _ rfl; (try simp only [show (k66).sz = 7 from rfl, Nat.mul_one, Nat.add_zero] at hx21_4); have hf21_4 := hfr21 4; (try simp only [show (k66).sz = 7 from rfl, Nat.mul_one, Nat.add_zero] at hf21_4); clear hcl21 hcc21 hfr21 hM21) | ((with_reducible refine gate_store (t := 3) (p := 48) rfl ?_); refine store_event (t := 3) (p := 48) (v := ?vo_w22) (w1 := (w20.setCell ⟨go5, (x5_1 : Int).toNat * 7 + 4, none⟩ (.int .i64 (wrap64 ((wrap64 ((wrap64 ((wrap64 (x1_1 + 1)) + 1)) + 1)) + 1))))) ?hg ?ho ?hn ?hr ?_; (case ho => rfl); (case hg => rfl); (case hn => rfl); (case hr => first | (go_simp; done) | (go_simp; rfl)); intro w22 hw; have hg : w20.grownBy w22 (some go5) := (by rw [hw]; exact HP21.2); have hp_ : Kd.R k66 66 w22 w0.heap.size (fun k_ => (P0_ k_ ∨ w.heap.size ≤ k_)) (.slice (some ⟨go5, 0, none⟩) x0_1.length co12) y310 := (by rw [hw, Ny310.out]; exact HP21.1); clear HP21; replace HB := Aside0.mk ((by rw [hw]; exact below_set (HB.out) GB5.out : Below w0.heap.size w0 w22)); replace HK := Aside0.mk (Kept.of_grown (S := (fun k_ => P0_ k_)) hg cq17 (fun k_ e_ => (HO_0.out.1 k_ e_))); replace HO_0 := Aside0.mk (hp_); clear hg hw hp_; have p10 : 0 ≤ (x5_1 : Int) := of_decide_eq_true uL; have q10 : (x5_1 : Int) < ((x0_1.length : Int) : Int) := of_decide_eq_true uL; obtain ⟨ce10, hcl10, hM10, hcc10, hfr10⟩ := Kd.R_elem HO_0.out z66 (x5_1 : Int) p10 q10; obtain rfl := k66_openM hM10; have hx10_0 : w22.cell? ⟨go5, (x5_1 : Int).toNat * 7, none⟩ = some (.int .i64 ((rd_T66 y310 x5_1).f0)) := hcc10 0 _ rfl; have hx10_1 : w22.cell? ⟨go5, (x5_1 : Int).toNat * 7 + 1, none⟩ = some (.int .i64 ((rd_T66 y310 x5_1).f1.f0)) := hcc10 1 _ rfl; have hx10_2 : w22.cell? ⟨go5, (x5_1 : Int).toNat * 7 + 2, none⟩ = some (.int .i64 ((rd_T66 y310 x5_1).f1.f1)) := hcc10 2 _ rfl; have hx10_3 : w22.cell? ⟨go5, (x5_1 : Int).toNat * 7 + 3, none⟩ = some (.int .i64 ((rd_T66 y310 x5_1).f1.f2)) := hcc10 3 _ rfl; have hx10_4 : w22.cell? ⟨go5, (x5_1 : Int).toNat * 7 + 4, none⟩ = some (.int .i64 ((rd_T66 y310 x5_1).f1.f3)) := hcc10 4 _ rfl; have hx10_5 : w22.cell? ⟨go5, (x5_1 : Int).toNat * 7 + 5, none⟩ = some (.int .i64 ((rd_T66 y310 x5_1).f1.f4)) := hcc10 5 _ rfl; have hx10_6 : w22.cell? ⟨go5, (x5_1 : Int).toNat * 7 + 6, none⟩ = some (.int .i64 ((rd_T66 y310 x5_1).f1.f5)) := hcc10 6 _ rfl; have hf10_0 : w22.frozen? ⟨go5, (x5_1 : Int).toNat * 7, none⟩ = false := hfr10 0; have hf10_1 : w22.frozen? ⟨go5, (x5_1 : Int).toNat * 7 + 1, none⟩ = false := hfr10 1; have hf10_2 : w22.frozen? ⟨go5, (x5_1 : Int).toNat * 7 + 2, none⟩ = false := hfr10 2; have hf10_3 : w22.frozen? ⟨go5, (x5_1 : Int).toNat * 7 + 3, none⟩ = false := hfr10 3; have hf10_4 : w22.frozen? ⟨go5, (x5_1 : Int).toNat * 7 + 4, none⟩ = false := hfr10 4; have hf10_5 : w22.frozen? ⟨go5, (x5_1 : Int).toNat * 7 + 5, none⟩ = false := hfr10 5; have hf10_6 : w22.frozen? ⟨go5, (x5_1 : Int).toNat * 7 + 6, none⟩ = false := hfr10 6; clear hcl10 hcc10 hfr10 hM10; replace p10 := eq_true p10; replace q10 := eq_true q10; have HX23 := Aside0.mk (show Kd.R k66 66 w22 w0.heap.size (fun k_ => (P0_ k_ ∨ w.heap.size ≤ k_)) (.slice (some ⟨go5, 0, none⟩) x0_1.length co12) y310 from (rSR HO_0.out)); obtain ⟨ce23, hcl23, hM23, hcc23, hfr23⟩ := Kd.R_elem HX23.out z66 (x5_1 : Int) (of_decide_eq_true uL) (by have h_ : (x5_1 : Int) < ((x0_1.length : Int) : Int) := of_decide_eq_true uL; first | exact h_ | (have e_ := (Kd.uQ HO_0.out).1; omega) | simpa using h_); obtain rfl := k66_openM hM23; have HP23 := Kd.R_seg HX23.out (x5_1 : Int) (of_decide_eq_true uL) (by have h_ : (x5_1 : Int) < ((x0_1.length : Int) : Int) := of_decide_eq_true uL; first | exact h_ | (have e_ := (Kd.uQ HO_0.out).1; omega) | simpa using h_) (seg := [.int .i64 (wrap64 ((wrap64 ((wrap64 ((wrap64 ((wrap64 (x1_1 + 1)) + 1)) + 1)) + 1)) + 1))]) (j := 5) hcl23 hcc23 (show 6 ≤ 7 from by decide) (x' := (⟨(rd_T66 y310 x5_1).f0, (⟨(rd_T66 y310 x5_1).f1.f0, (rd_T66 y310 x5_1).f1.f1, (rd_T66 y310 x5_1).f1.f2, (rd_T66 y310 x5_1).f1.f3, wrap64 ((wrap64 ((wrap64 ((wrap64 ((wrap64 (x1_1 + 1)) + 1)) + 1)) + 1)) + 1), (rd_T66 y310 x5_1).f1.f5⟩ : S64)⟩ : S66)) (k66_mkM _ _ _ (⟨(rd_T66 y310 x5_1).f0, (⟨(rd_T66 y310 x5_1).f1.f0, (rd_T66 y310 x5_1).f1.f1, (rd_T66 y310 x5_1).f1.f2, (rd_T66 y310 x5_1).f1.f3, wrap64 ((wrap64 ((wrap64 ((wrap64 ((wrap64 (x1_1 + 1)) + 1)) + 1)) + 1)) + 1), (rd_T66 y310 x5_1).f1.f5⟩ : S64)⟩ : S66) ) (fun _ hk => hk); have hx23_5 := hcc23 5 _ rfl; (try simp only [show (k66).sz = 7 from rfl, Nat.mul_one, Nat.add_zero] at hx23_5); have hf23_5 := hfr23 5; (try simp only [show (k66).sz = 7 from rfl, Nat.mul_one, Nat.add_zero] at hf23_5); clear hcl23 hcc23 hfr23 hM23) | ((with_reducible refine gate_store (t := 3) (p := 56) rfl ?_); refine store_event (t := 3) (p := 56) (v := ?vo_w24) (w1 := (w22.setCell ⟨go5, (x5_1 : Int).toNat * 7 + 5, none⟩ (.int .i64 (wrap64 ((wrap64 ((wrap64 ((wrap64 ((wrap64 (x1_1 + 1)) + 1)) + 1)) + 1)) + 1))))) ?hg ?ho ?hn ?hr ?_; (case ho => rfl); (case hg => rfl); (case hn => rfl); (case hr => first | (go_simp; done) | (go_simp; rfl)); intro w24 hw; have hg : w22.grownBy w24 (some go5) := (by rw [hw]; exact HP23.2); have hp_ : Kd.R k66 66 w24 w0.heap.size (fun k_ => (P0_ k_ ∨ w.heap.size ≤ k_)) (.slice (some ⟨go5, 0, none⟩) x0_1.length co12) y311 := (by rw [hw, Ny311.out]; exact HP23.1); clear HP23; replace HB := Aside0.mk ((by rw [hw]; exact below_set (HB.out) GB5.out : Below w0.heap.size w0 w24)); replace HK := Aside0.mk (Kept.of_grown (S := (fun k_ => P0_ k_)) hg cq17 (fun k_ e_ => (HO_0.out.1 k_ e_))); replace HO_0 := Aside0.mk (hp_); clear hg hw hp_; have p11 : 0 ≤ (x5_1 : Int) := of_decide_eq_true uL; have q11 : (x5_1 : Int) < ((x0_1.length : Int) : Int) := of_decide_eq_true uL; obtain ⟨ce11, hcl11, hM11, hcc11, hfr11⟩ := Kd.R_elem HO_0.out z66 (x5_1 : Int) p11 q11; obtain rfl := k66_openM hM11; have hx11_0 : w24.cell? ⟨go5, (x5_1 : Int).toNat * 7, none⟩ = some (.int .i64 ((rd_T66 y311 x5_1).f0)) := hcc11 0 _ rfl; have hx11_1 : w24.cell? ⟨go5, (x5_1 : Int).toNat * 7 + 1, none⟩ = some (.int .i64 ((rd_T66 y311 x5_1).f1.f0)) := hcc11 1 _ rfl; have hx11_2 : w24.cell? ⟨go5, (x5_1 : Int).toNat * 7 + 2, none⟩ = some (.int .i64 ((rd_T66 y311 x5_1).f1.f1)) := hcc11 2 _ rfl; have hx11_3 : w24.cell? ⟨go5, (x5_1 : Int).toNat * 7 + 3, none⟩ = some (.int .i64 ((rd_T66 y311 x5_1).f1.f2)) := hcc11 3 _ rfl; have hx11_4 : w24.cell? ⟨go5, (x5_1 : Int).toNat * 7 + 4, none⟩ = some (.int .i64 ((rd_T66 y311 x5_1).f1.f3)) := hcc11 4 _ rfl; have hx11_5 : w24.cell? ⟨go5, (x5_1 : Int).toNat * 7 + 5, none⟩ = some (.int .i64 ((rd_T66 y311 x5_1).f1.f4)) := hcc11 5 _ rfl; have hx11_6 : w24.cell? ⟨go5, (x5_1 : Int).toNat * 7 + 6, none⟩ = some (.int .i64 ((rd_T66 y311 x5_1).f1.f5)) := hcc11 6 _ rfl; have hf11_0 : w24.frozen? ⟨go5, (x5_1 : Int).toNat * 7, none⟩ = false := hfr11 0; have hf11_1 : w24.frozen? ⟨go5, (x5_1 : Int).toNat * 7 + 1, none⟩ = false := hfr11 1; have hf11_2 : w24.frozen? ⟨go5, (x5_1 : Int).toNat * 7 + 2, none⟩ = false := hfr11 2; have hf11_3 : w24.frozen? ⟨go5, (x5_1 : Int).toNat * 7 + 3, none⟩ = false := hfr11 3; have hf11_4 : w24.frozen? ⟨go5, (x5_1 : Int).toNat * 7 + 4, none⟩ = false := hfr11 4; have hf11_5 : w24.frozen? ⟨go5, (x5_1 : Int).toNat * 7 + 5, none⟩ = false := hfr11 5; have hf11_6 : w24.frozen? ⟨go5, (x5_1 : Int).toNat * 7 + 6, none⟩ = false := hfr11 6; clear hcl11 hcc11 hfr11 hM11; replace p11 := eq_true p11; replace q11 := eq_true q11; have HX25 := Aside0.mk (show Kd.R k66 66 w24 w0.heap.size (fun k_ => (P0_ k_ ∨ w.heap.size ≤ k_)) (.slice (some ⟨go5, 0, none⟩) x0_1.length co12) y311 from (rSR HO_0.out)); obtain ⟨ce25, hcl25, hM25, hcc25, hfr25⟩ := Kd.R_elem HX25.out z66 (x5_1 : Int) (of_decide_eq_true uL) (by have h_ : (x5_1 : Int) < ((x0_1.length : Int) : Int) := of_decide_eq_true uL; first | exact h_ | (have e_ := (Kd.uQ HO_0.out).1; omega) | simpa using h_); obtain rfl := k66_openM hM25; have HP25 := Kd.R_seg HX25.out (x5_1 : Int) (of_decide_eq_true uL) (by have h_ : (x5_1 : Int) < ((x0_1.length : Int) : Int) := of_decide_eq_true uL; first | exact h_ | (have e_ := (Kd.uQ HO_0.out).1; omega) | simpa using h_) (seg := [.int .i64 (wrap64 ((wrap64 ((wrap64 ((wrap64 ((wrap64 ((wrap64 (x1_1 + 1)) + 1)) + 1)) + 1)) + 1)) + 1))]) (j := 6) hcl25 hcc25 (show 7 ≤ 7 from by decide) (x' := (⟨(rd_T66 y311 x5_1).f0, (⟨(rd_T66 y311 x5_1).f1.f0, (rd_T66 y311 x5_1).f1.f1, (rd_T66 y311 x5_1).f1.f2, (rd_T66 y311 x5_1).f1.f3, (rd_T66 y311 x5_1).f1.f4, wrap64 ((wrap64 ((wrap64 ((wrap64 ((wrap64 ((wrap64 (x1_1 + 1)) + 1)) + 1)) + 1)) + 1)) + 1)⟩ : S64)⟩ : S66)) (k66_mkM _ _ _ (⟨(rd_T66 y311 x5_1).f0, (⟨(rd_T66 y311 x5_1).f1.f0, (rd_T66 y311 x5_1).f1.f1, (rd_T66 y311 x5_1).f1.f2, (rd_T66 y311 x5_1).f1.f3, (rd_T66 y311 x5_1).f1.f4, wrap64 ((wrap64 ((wrap64 ((wrap64 ((wrap64 ((wrap64 (x1_1 + 1)) + 1)) + 1)) + 1)) + 1)) + 1)⟩ : S64)⟩ : S66) ) (fun _ hk => hk); have hx25_6 := hcc25 6 _ rfl; (try simp only [show (k66).sz = 7 from rfl, Nat.mul_one, Nat.add_zero] at hx25_6); have hf25_6 := hfr25 6; (try simp only [show (k66).sz = 7 from rfl, Nat.mul_one, Nat.add_zero] at hf25_6); clear hcl25 hcc25 hfr25 hM25) | ((with_reducible refine gate_store (t := 3) (p := 64) rfl ?_); refine store_event (t := 3) (p := 64) (v := ?vo_w26) (w1 := (w24.setCell ⟨go5, (x5_1 : Int).toNat * 7 + 6, none⟩ (.int .i64 (wrap64 ((wrap64 ((wrap64 ((wrap64 ((wrap64 ((wrap64 (x1_1 + 1)) + 1)) + 1)) + 1)) + 1)) + 1))))) ?hg ?ho ?hn ?hr ?_; (case ho => rfl); (case hg => rfl); (case hn => rfl); (case hr => first | (go_simp; done) | (go_simp; rfl)); intro w26 hw; have hg : w24.grownBy w26 (some go5) := (by rw [hw]; exact HP25.2); have hp_ : Kd.R k66 66 w26 w0.heap.size (fun k_ => (P0_ k_ ∨ w.heap.size ≤ k_)) (.slice (some ⟨go5, 0, none⟩) x0_1.length co12) y312 := (by rw [hw, Ny312.out]; exact HP25.1); clear HP25; replace HB := Aside0.mk ((by rw [hw]; exact below_set (HB.out) GB5.out : Below w0.heap.size w0 w26)); replace HK := Aside0.mk (Kept.of_grown (S := (fun k_ => P0_ k_)) hg cq17 (fun k_ e_ => (HO_0.out.1 k_ e_))); replace HO_0 := Aside0.mk (hp_); clear hg hw hp_))
      go_roundg k1
      case measure => have := HK1.out; omega
      case rel => exact ⟨(y312), (wrap64 ((wrap64 ((wrap64 ((wrap64 ((wrap64 ((wrap64 ((wrap64 (x1_1 + 1)) + 1)) + 1)) + 1)) + 1)) + 1)) + 1)), (wrap64 (x5_1 + 1)), cq6, cq6, H', ⟨by have := HK1.out; omega⟩, ⟨by (with_reducible repeat (first | apply Kd.uV | apply Kd.uU | apply Kd.uT)); exact HO_0.out⟩, ⟨cq17⟩, ⟨cq1⟩⟩

end Go.Proofs.YtcikahnmiiichaaDoor.L
