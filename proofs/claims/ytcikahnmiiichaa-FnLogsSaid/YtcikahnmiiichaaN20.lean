/- Go functions as Lean functions, and the proof that the code comes to them: written by a program of this session out of the translation. -/
import Derived.Test.YtcikahnmiiichaaN0
import Derived.Test.YtcikahnmiiichaaN8
import Derived.Test.YtcikahnmiiichaaN18
namespace Go.Proofs.Ytcikahnmiiichaa.N
open List renaming setIfInBounds_toArray → yA, set_cons_zero → yB, set_cons_succ → yC, map_toArray → yD
open Go.World renaming block_lt_of_cell? → yG
open Go.RowKit Go.Proofs.YtcikahnmiiichaaW.PrintWords Go.Proofs.YtcikahnmiiichaaW.PrintLast Go.Proofs.YtcikahnmiiichaaW.PrintMore
attribute [local go_sem] max2_int min2_int max_two min_two vX vY max_four min_four   -- for this text's walks alone
set_option linter.unusedVariables false
set_option linter.unusedSimpArgs false

/-! ### spec_AppendEntry: function 40 -/
def spec_AppendEntry.f (k : Nat) (l0 : List (S72)) (a1_0 : Int) (a1_1 : Int) (a1_2 : Int) (a1_3 : Int) (a1_4 : Int) (a1_5 : Int) (a1_6 : Int) : Option ((List (S72)) × Bool) := (spec_l5Copy.f l0).bind fun t527 => ((some (([(⟨a1_0, (⟨a1_1, a1_2, a1_3, a1_4, a1_5, a1_6⟩ : S37)⟩ : S72)] : List (S72)) : List (S72))).bind fun y530 => (if t527.length + y530.length < 2513169434916 then ((some (t527 ++ y530 : List (S72))).bind fun y533 => ((spec_IsLog.f k l0).bind fun t536 => (if t536 = true then ((spec_IsLog.f k y533).bind fun t537 => (if t537 = true then (some (y533, true)) else ((spec_l5Copy.f l0).bind fun t538 => (some (t538, false))))) else ((spec_l5Copy.f l0).bind fun t541 => (some (t541, false)))))) else (none)))
theorem spec_AppendEntry.mono : ∀ a0 a1 a2 a3 a4 a5 a6 a7 k, uI (spec_AppendEntry.f k a0 a1 a2 a3 a4 a5 a6 a7) (spec_AppendEntry.f (k + 1) a0 a1 a2 a3 a4 a5 a6 a7) := by
  intro a0 a1 a2 a3 a4 a5 a6 a7 k
  unfold spec_AppendEntry.f
  repeat' first
      | (with_reducible exact spec_IsLog.mono _ _)
      | (with_reducible exact uI.refl _)
      | (with_reducible exact uI.none _)
      | (with_reducible refine uI.ite ?_ ?_)
      | (with_reducible refine uI.bind ?_ (fun _ => ?_))
      | exact uI.none _
      | refine uI.ite ?_ ?_
      | refine uI.bind ?_ (fun _ => ?_)
set_option maxHeartbeats 8000000 in
set_option maxRecDepth 100000 in
theorem spec_AppendEntry.calls (k : Nat) (A0 : Option Addr) (c0 : Nat) (l0 : List (S72)) (a1_0 : Int) (a1_1 : Int) (a1_2 : Int) (a1_3 : Int) (a1_4 : Int) (a1_5 : Int) (a1_6 : Int) (r1 : List (S72)) (r2 : Bool) (w : World) (hr0 : Kd.C k72 w A0 l0.length l0) (hc0 : l0.length ≤ c0) (h : spec_AppendEntry.f k l0 a1_0 a1_1 a1_2 a1_3 a1_4 a1_5 a1_6 = some (r1, r2)) :
    Calls Try.prog 40 #[.slice A0 l0.length c0, .agg #[.int .i64 a1_0, .int .i64 a1_1, .int .i64 a1_2, .int .i64 a1_3, .int .i64 a1_4, .int .i64 a1_5, .int .i64 a1_6]] w fun e w' => ∃ v0_ : Value, e = .returned (.tuple #[v0_, .bool r2]) ∧ Kd.R k72 72 w' w.heap.size (fun _ => True) v0_ r1 ∧ Below w.heap.size w w' := by
  have hu72 := Try.underlying72
  have HR0 := Aside0.mk hr0
  have HC0 := Aside0.mk hc0
  clear hr0 hc0
  have HB := Aside0.mk (Below.refl w.heap.size w)
  have H : ((spec_l5Copy.f l0).bind fun t527 => ((some (([(⟨a1_0, (⟨a1_1, a1_2, a1_3, a1_4, a1_5, a1_6⟩ : S37)⟩ : S72)] : List (S72)) : List (S72))).bind fun y530 => (if t527.length + y530.length < 2513169434916 then ((some (t527 ++ y530 : List (S72))).bind fun y533 => ((spec_IsLog.f k l0).bind fun t536 => (if t536 = true then ((spec_IsLog.f k y533).bind fun t537 => (if t537 = true then (some (y533, true)) else ((spec_l5Copy.f l0).bind fun t538 => (some (t538, false))))) else ((spec_l5Copy.f l0).bind fun t541 => (some (t541, false)))))) else (none)))) = some (r1, r2) := h
  clear h
  replace H := Option.bind_eq_some_iff.mp H
  obtain ⟨t527, A30, H⟩ := H
  try dsimp only at H
  have A3 := Aside0.mk A30
  clear A30
  obtain ⟨y530, hy530⟩ : ∃ y_ : List (S72), y_ = (([(⟨a1_0, (⟨a1_1, a1_2, a1_3, a1_4, a1_5, a1_6⟩ : S37)⟩ : S72)] : List (S72))) := ⟨_, rfl⟩
  replace H : (if t527.length + y530.length < 2513169434916 then ((some (t527 ++ y530 : List (S72))).bind fun y533 => ((spec_IsLog.f k l0).bind fun t536 => (if t536 = true then ((spec_IsLog.f k y533).bind fun t537 => (if t537 = true then (some (y533, true)) else ((spec_l5Copy.f l0).bind fun t538 => (some (t538, false))))) else ((spec_l5Copy.f l0).bind fun t541 => (some (t541, false)))))) else (none)) = some (r1, r2) := rpl hy530 H
  have Ny530 := Aside0.mk hy530
  clear hy530
  go_enter Try.func40, Try.ntmps40
  go_wp2_with (first | ((with_reducible refine uJ (N := 3) rfl ?_); refine bxe 3 #[.int .i64 a1_0, .int .i64 a1_1, .int .i64 a1_2, .int .i64 a1_3, .int .i64 a1_4, .int .i64 a1_5, .int .i64 a1_6] 72 ?_; intro gb526 hg w34 hbox hb; have BK526 := Aside0.mk (hbox); have GW526 := tGe HB hg; have GE526 := tGe HB hg; replace HB := vB HB hb; clear hb hbox hg; refine ?roundEnd))
  case roundEnd =>
  obtain ⟨LMc4, H⟩ := ifL H
  obtain ⟨y533, hy533⟩ : ∃ y_ : List (S72), y_ = (t527 ++ y530) := ⟨_, rfl⟩
  replace H : ((spec_IsLog.f k l0).bind fun t536 => (if t536 = true then ((spec_IsLog.f k y533).bind fun t537 => (if t537 = true then (some (y533, true)) else ((spec_l5Copy.f l0).bind fun t538 => (some (t538, false))))) else ((spec_l5Copy.f l0).bind fun t541 => (some (t541, false))))) = some (r1, r2) := rpl hy533 H
  have Ny533 := Aside0.mk hy533
  clear hy533
  replace H := Option.bind_eq_some_iff.mp H
  obtain ⟨t536, A50, H⟩ := H
  try dsimp only at H
  have A5 := Aside0.mk A50
  clear A50
  by_cases c6 : t536 = true
  rotate_left
  · replace c6 := Bool.eq_false_iff.mpr c6
    subst c6
    try rw [if_neg (show ¬ (false = true) by decide)] at H
    replace H := Option.bind_eq_some_iff.mp H
    obtain ⟨t541, A330, H⟩ := H
    try dsimp only at H
    have A33 := Aside0.mk A330
    clear A330
    simp only [Option.some.injEq, Prod.mk.injEq] at H
    obtain ⟨rfl, rfl⟩ := H
    try go_wp2
    replace BK526 := Aside0.mk (uE BK526.out)
    replace HB := Aside0.mk (vM HB.out)
    refine start_ (n := 6) (S := fun w' => w'.cell? ⟨gb526, 0, none⟩ = some (.int .i64 a1_0) ∧ w'.cell? ⟨gb526, 1, none⟩ = some (.int .i64 a1_1) ∧ w'.cell? ⟨gb526, 2, none⟩ = some (.int .i64 a1_2) ∧ w'.cell? ⟨gb526, 3, none⟩ = some (.int .i64 a1_3) ∧ w'.cell? ⟨gb526, 4, none⟩ = some (.int .i64 a1_4) ∧ w'.cell? ⟨gb526, 5, none⟩ = some (.int .i64 a1_5) ∧ w'.cell? ⟨gb526, 6, none⟩ = some (.int .i64 a1_6)) (ds := []) tb9 (by kernel_rfl) rfl rfl ⟨(uB BK526.out 0).trans rfl, (uB BK526.out 1).trans rfl, (uB BK526.out 2).trans rfl, (uB BK526.out 3).trans rfl, (uB BK526.out 4).trans rfl, (uB BK526.out 5).trans rfl, (uB BK526.out 6).trans rfl⟩ (fun hHeld => ?_)
    generalize w34.drew = w35 at BK526 HB hHeld ⊢
    refine uG 0 (some 7) tb26 ?_
    refine takeTk 2 (some 9) tb35 ?_
    refine join_ (σ := Value × Value) 2 tb1 (fun s_ => [(8, s_.1), (10, s_.2)]) (fun s_ w' => (w'.cell? ⟨gb526, 0, none⟩ = some (.int .i64 a1_0) ∧ w'.cell? ⟨gb526, 1, none⟩ = some (.int .i64 a1_1) ∧ w'.cell? ⟨gb526, 2, none⟩ = some (.int .i64 a1_2) ∧ w'.cell? ⟨gb526, 3, none⟩ = some (.int .i64 a1_3) ∧ w'.cell? ⟨gb526, 4, none⟩ = some (.int .i64 a1_4) ∧ w'.cell? ⟨gb526, 5, none⟩ = some (.int .i64 a1_5) ∧ w'.cell? ⟨gb526, 6, none⟩ = some (.int .i64 a1_6)) ∧ (Kd.R k72 72 w' w.heap.size (fun k_ => some k_ ≠ (s_.2 : Value).ownBlock ∧ k_ ≠ gb526) s_.1 t527) ∧ (Kd.R k72 72 w' w.heap.size (fun k_ => some k_ ≠ (s_.1 : Value).ownBlock ∧ k_ ≠ gb526) s_.2 y530) ∧ (w'.heap[gb526]? = some (.cells #[.int .i64 a1_0, .int .i64 a1_1, .int .i64 a1_2, .int .i64 a1_3, .int .i64 a1_4, .int .i64 a1_5, .int .i64 a1_6] 72 (0, 0))) ∧ (Below w.heap.size w w')) ?_ ?_
    rotate_left
    · intro hCont
      refine two_ (i := 1) (j := 3) (Ni := some 8) (Nj := some 10) tb10 tb40 rfl rfl rfl rfl (by kernel_rfl) (by decide) (by decide) (fun K hK => ?_) (fun K hK => ?_)
      · skip
        refine goesT Try.func77 #[.slice A0 l0.length c0] ?_
        with_reducible refine (spec_l5Copy.calls _ _ l0 t527 _ ?side1 ?side2 A3.out).mono ?_
        (case side1 => exact cq7)
        (case side2 => exact HC0.out)
        rintro e w36 ⟨v528, rfl, ho0, hb⟩
        refine ⟨_, rfl, ?_⟩
        have HO529 := Aside0.mk (Kd.uS (Kd.R_newB ho0 (g := gb526) (o := .cells #[.int .i64 a1_0, .int .i64 a1_1, .int .i64 a1_2, .int .i64 a1_3, .int .i64 a1_4, .int .i64 a1_5, .int .i64 a1_6] 72 (0, 0)) (rSB BK526.out)) (uO vA))
        replace BK526 := uP BK526 hb
        replace HB := vB HB hb
        (try clear hb)
        (try clear ho0)
        refine hK.out _ _ ⟨(uB BK526.out 0).trans rfl, (uB BK526.out 1).trans rfl, (uB BK526.out 2).trans rfl, (uB BK526.out 3).trans rfl, (uB BK526.out 4).trans rfl, (uB BK526.out 5).trans rfl, (uB BK526.out 6).trans rfl⟩ (fun hHeld => ?_)
        clear hK K
        refine vL (some 8) ?_
        refine one_ (i := 3) (N := some 10) tb1 rfl rfl (by kernel_rfl) (by decide) (fun K hK => ?_)
        refine Kd.R_lit_step k72 _ 72 ?hg (N := 10) ?hd (xs := ([(⟨a1_0, (⟨a1_1, a1_2, a1_3, a1_4, a1_5, a1_6⟩ : S37)⟩ : S72)] : List (S72))) (inner := [.int .i64 a1_0, .int .i64 a1_1, .int .i64 a1_2, .int .i64 a1_3, .int .i64 a1_4, .int .i64 a1_5, .int .i64 a1_6]) (ok := fun _ => True) (okp := fun _ => True) ?hr ?hp (fun _ hk => hk) trivial (Below.refl _ _) (Nat.le_refl _) (by simp) ?_; (case hd => rfl); (case hg => rfl); (case hr => first | (go_simp; done) | (go_simp; rfl)); (case hp => exact (vN.c7 (show Kd.M k72 _ _ _ (⟨a1_0, (⟨a1_1, a1_2, a1_3, a1_4, a1_5, a1_6⟩ : S37)⟩ : S72) [.int .i64 a1_0, .int .i64 a1_1, .int .i64 a1_2, .int .i64 a1_3, .int .i64 a1_4, .int .i64 a1_5, .int .i64 a1_6] from (k72_mkM _ _ _ (⟨a1_0, (⟨a1_1, a1_2, a1_3, a1_4, a1_5, a1_6⟩ : S37)⟩ : S72) )) (vN.none _ _)))
        intro v531 w37 ho38 hb hg_ hnew_
        clear hg_ hnew_
        (first | rw [← Ny530.out] at ho38 | (simp only [Int.reduceToNat] at ho38; rw [← Ny530.out] at ho38))
        have HO532 := Aside0.mk (Kd.uS (Kd.R_newB (Kd.vT ho38 (Kd.R_lt (uZ HO529.out))) (g := gb526) (o := .cells #[.int .i64 a1_0, .int .i64 a1_1, .int .i64 a1_2, .int .i64 a1_3, .int .i64 a1_4, .int .i64 a1_5, .int .i64 a1_6] 72 (0, 0)) (rSB BK526.out)) (uO vA))
        replace HO529 := Aside0.mk (Kd.vI (uZ HO529.out) (Kd.vS ho38) hb)
        replace BK526 := uP BK526 hb
        replace HB := vB HB hb
        clear hb ho38
        refine hK.out _ _ ⟨(uB BK526.out 0).trans rfl, (uB BK526.out 1).trans rfl, (uB BK526.out 2).trans rfl, (uB BK526.out 3).trans rfl, (uB BK526.out 4).trans rfl, (uB BK526.out 5).trans rfl, (uB BK526.out 6).trans rfl⟩ (fun hHeld => ?_)
        clear hK K
        refine vL (some 10) ?_
        exact vE cq45 (hCont (v528, v531) _ ⟨hHeld, cq136, cq137, (rSB BK526.out), vA⟩)
      skip
      refine Kd.R_lit_step k72 _ 72 ?hg (N := 10) ?hd (xs := ([(⟨a1_0, (⟨a1_1, a1_2, a1_3, a1_4, a1_5, a1_6⟩ : S37)⟩ : S72)] : List (S72))) (inner := [.int .i64 a1_0, .int .i64 a1_1, .int .i64 a1_2, .int .i64 a1_3, .int .i64 a1_4, .int .i64 a1_5, .int .i64 a1_6]) (ok := fun _ => True) (okp := fun _ => True) ?hr ?hp (fun _ hk => hk) trivial (Below.refl _ _) (Nat.le_refl _) (by simp) ?_; (case hd => rfl); (case hg => rfl); (case hr => first | (go_simp; done) | (go_simp; rfl)); (case hp => exact (vN.c7 (show Kd.M k72 _ _ _ (⟨a1_0, (⟨a1_1, a1_2, a1_3, a1_4, a1_5, a1_6⟩ : S37)⟩ : S72) [.int .i64 a1_0, .int .i64 a1_1, .int .i64 a1_2, .int .i64 a1_3, .int .i64 a1_4, .int .i64 a1_5, .int .i64 a1_6] from (k72_mkM _ _ _ (⟨a1_0, (⟨a1_1, a1_2, a1_3, a1_4, a1_5, a1_6⟩ : S37)⟩ : S72) )) (vN.none _ _)))
      intro v531 w36 ho37 hb hg_ hnew_
      clear hg_ hnew_
      (first | rw [← Ny530.out] at ho37 | (simp only [Int.reduceToNat] at ho37; rw [← Ny530.out] at ho37))
      have HO532 := Aside0.mk (Kd.uS (Kd.R_newB ho37 (g := gb526) (o := .cells #[.int .i64 a1_0, .int .i64 a1_1, .int .i64 a1_2, .int .i64 a1_3, .int .i64 a1_4, .int .i64 a1_5, .int .i64 a1_6] 72 (0, 0)) (rSB BK526.out)) (uO vA))
      replace BK526 := uP BK526 hb
      replace HB := vB HB hb
      clear hb ho37
      refine hK.out _ _ ⟨(uB BK526.out 0).trans rfl, (uB BK526.out 1).trans rfl, (uB BK526.out 2).trans rfl, (uB BK526.out 3).trans rfl, (uB BK526.out 4).trans rfl, (uB BK526.out 5).trans rfl, (uB BK526.out 6).trans rfl⟩ (fun hHeld => ?_)
      clear hK K
      refine vL (some 10) ?_
      refine one_ (i := 1) (N := some 8) tb1 rfl rfl (by kernel_rfl) (by decide) (fun K hK => ?_)
      refine goesT Try.func77 #[.slice A0 l0.length c0] ?_
      with_reducible refine (spec_l5Copy.calls _ _ l0 t527 _ ?side1 ?side2 A3.out).mono ?_
      (case side1 => exact cq7)
      (case side2 => exact HC0.out)
      rintro e w38 ⟨v528, rfl, ho0, hb⟩
      refine ⟨_, rfl, ?_⟩
      have HO529 := Aside0.mk (Kd.uS (Kd.R_newB (Kd.vT ho0 (Kd.R_lt (uZ HO532.out))) (g := gb526) (o := .cells #[.int .i64 a1_0, .int .i64 a1_1, .int .i64 a1_2, .int .i64 a1_3, .int .i64 a1_4, .int .i64 a1_5, .int .i64 a1_6] 72 (0, 0)) (rSB BK526.out)) (uO vA))
      replace HO532 := Aside0.mk (Kd.vI (uZ HO532.out) (Kd.vS ho0) hb)
      replace BK526 := uP BK526 hb
      replace HB := vB HB hb
      (try clear hb)
      (try clear ho0)
      refine hK.out _ _ ⟨(uB BK526.out 0).trans rfl, (uB BK526.out 1).trans rfl, (uB BK526.out 2).trans rfl, (uB BK526.out 3).trans rfl, (uB BK526.out 4).trans rfl, (uB BK526.out 5).trans rfl, (uB BK526.out 6).trans rfl⟩ (fun hHeld => ?_)
      clear hK K
      refine vL (some 8) ?_
      exact vE cq45 (hCont (v528, v531) _ ⟨hHeld, cq138, cq139, (rSB BK526.out), vA⟩)
    rintro ⟨v528, v531⟩ w39 ⟨hS_, h0_, h1_, h2_, h3_⟩
    have n0_ : Aside0 (Kd.R k72 72 w39 w.heap.size (fun k_ => some k_ ≠ (v531 : Value).ownBlock ∧ k_ ≠ gb526) v528 t527) := ⟨h0_⟩
    have n1_ : Aside0 (Kd.R k72 72 w39 w.heap.size (fun k_ => some k_ ≠ (v528 : Value).ownBlock ∧ k_ ≠ gb526) v531 y530) := ⟨h1_⟩
    have n2_ : Aside0 (w39.heap[gb526]? = some (.cells #[.int .i64 a1_0, .int .i64 a1_1, .int .i64 a1_2, .int .i64 a1_3, .int .i64 a1_4, .int .i64 a1_5, .int .i64 a1_6] 72 (0, 0))) := ⟨h2_⟩
    have n3_ : Aside0 (Below w.heap.size w w39) := ⟨h3_⟩
    clear BK526
    clear HB
    clear h0_ h1_ h2_ h3_
    have HO529 := n0_
    have HO532 := n1_
    have BK526 := n2_
    have HB := n3_
    clear n0_ n1_ n2_ n3_
    have hHeld : w39.cell? ⟨gb526, 0, none⟩ = some (.int .i64 a1_0) ∧ w39.cell? ⟨gb526, 1, none⟩ = some (.int .i64 a1_1) ∧ w39.cell? ⟨gb526, 2, none⟩ = some (.int .i64 a1_2) ∧ w39.cell? ⟨gb526, 3, none⟩ = some (.int .i64 a1_3) ∧ w39.cell? ⟨gb526, 4, none⟩ = some (.int .i64 a1_4) ∧ w39.cell? ⟨gb526, 5, none⟩ = some (.int .i64 a1_5) ∧ w39.cell? ⟨gb526, 6, none⟩ = some (.int .i64 a1_6) := hS_
    obtain ⟨Ao41, co41, eo41⟩ := Kd.uY HO532.out
    (first | subst eo41 | (injection eo41 with f1_ f2_ f3_; have f4_ := f1_.symm; have f5_ := f3_.symm; clear f1_ f2_ f3_; subst f4_; subst f5_))
    refine vE (a' := ?_) ?_ ?_
    rotate_left
    · simp only [putAll, Act.put, yA, yB, yC]
      rfl
    refine one_ (i := 4) (N := some 11) tb11 rfl rfl (by kernel_rfl) (by decide) (fun K hK => ?_)
    refine Kd.vZ k72 (w0 := w) w.heap.size (by rfl) (.tmp 8) (.tmp 10) 58 72 (.agg #[(.int .i64 0), (.int .i64 0), (.int .i64 0), (.int .i64 0), (.int .i64 0), (.int .i64 0), (.int .i64 0)]) 56 rfl Try.underlying58 info72 rfl (by decide) (by omega) v528 t527 y530 _ _ _ (fun k_ => some k_ ≠ (.slice Ao41 y530.length co41 : Value).ownBlock ∧ k_ ≠ gb526) (fun _ => False) rfl rfl ?aO ?aR (fun _ _ h => h) (fun _ h => h.elim) ?aF ?aB ?aS ?aL ?_
    (case aR => exact cq117)
    (case aB => exact cq25)
    (case aF => exact cq66)
    (case aO => exact (uZ HO529.out))
    (case aS => exact cq23)
    (case aL => have := LMc4.out; omega)
    intro v534 w40 ho hb hg hat
    rw [← Ny533.out] at ho
    have n0_ := tGr BK526 hg (Kd.R_away HO529.out (fun _ hk => hk.2))
    have n1_ := Aside0.mk (Kd.R_after (ok := (fun k_ => k_ ≠ gb526)) cq142 hg hat)
    have n2_ := Aside0.mk (hb)
    have n3_ := Aside0.mk (ho)
    clear BK526
    clear HO532
    clear HB
    clear HO529
    have BK526 := n0_
    have HO532 := n1_
    have HB := n2_
    have HO535 := n3_
    clear n0_ n1_ n2_ n3_
    clear ho hb hg hat
    refine hK.out _ _ ⟨(uB BK526.out 0).trans rfl, (uB BK526.out 1).trans rfl, (uB BK526.out 2).trans rfl, (uB BK526.out 3).trans rfl, (uB BK526.out 4).trans rfl, (uB BK526.out 5).trans rfl, (uB BK526.out 6).trans rfl⟩ (fun hHeld => ?_)
    clear hK K
    refine vL (some 11) ?_
    refine uG 5 (some 6) tb12 ?_
    refine done_ (by kernel_rfl) ?_
    try go_wp2_with (first | ((with_reducible refine uF (f := 67) rfl ?_); refine uX (some 13) Try.func67 #[.slice A0 l0.length c0] ?_; (with_reducible refine (spec_IsLog.calls k _ _ l0 false _ ?side1 ?side2 A5.out).mono ?_); (case side1 => exact cq7); (case side2 => exact HC0.out); rintro e w42 ⟨rfl, hb⟩; refine ⟨_, rfl, ?_⟩; replace HO532 := Kd.tR HO532 hb; replace HO535 := Kd.tR HO535 hb; replace BK526 := uP BK526 hb; replace HB := vB HB hb; (try clear hb)) | ((with_reducible refine uF (f := 77) rfl ?_); refine uX (some 21) Try.func77 #[.slice A0 l0.length c0] ?_; (with_reducible refine (spec_l5Copy.calls _ _ l0 t541 _ ?side1 ?side2 A33.out).mono ?_); (case side1 => exact cq7); (case side2 => exact HC0.out); rintro e w43 ⟨v542, rfl, ho0, hb⟩; refine ⟨_, rfl, ?_⟩; have HO543 := Aside0.mk (Kd.uS (Kd.R_newB (Kd.vT (Kd.vT ho0 (Kd.R_lt (uZ HO532.out))) (Kd.R_lt (uZ HO535.out))) (g := gb526) (o := .cells #[.int .i64 a1_0, .int .i64 a1_1, .int .i64 a1_2, .int .i64 a1_3, .int .i64 a1_4, .int .i64 a1_5, .int .i64 a1_6] 72 (0, 0)) (rSB BK526.out)) (uO vA)); replace HO532 := Aside0.mk (Kd.vI (uZ HO532.out) (Kd.vS ho0) hb); replace HO535 := Aside0.mk (Kd.vI (uZ HO535.out) (Kd.vS ho0) hb); replace BK526 := uP BK526 hb; replace HB := vB HB hb; (try clear hb); (try clear ho0)))
    go_ret2
    exact ⟨_, cq3, by (with_reducible repeat (first | apply Kd.uQ | apply Kd.uR | apply Kd.uV)); exact Kd.uN HO543.out (fun _ hk => trivial), vA⟩
  subst c6
  try rw [if_pos rfl] at H
  replace H := Option.bind_eq_some_iff.mp H
  obtain ⟨t537, A70, H⟩ := H
  try dsimp only at H
  have A7 := Aside0.mk A70
  clear A70
  by_cases c8 : t537 = true
  · subst c8
    try rw [if_pos rfl] at H
    simp only [Option.some.injEq, Prod.mk.injEq] at H
    obtain ⟨rfl, rfl⟩ := H
    try go_wp2
    replace BK526 := Aside0.mk (uE BK526.out)
    replace HB := Aside0.mk (vM HB.out)
    refine start_ (n := 6) (S := fun w' => w'.cell? ⟨gb526, 0, none⟩ = some (.int .i64 a1_0) ∧ w'.cell? ⟨gb526, 1, none⟩ = some (.int .i64 a1_1) ∧ w'.cell? ⟨gb526, 2, none⟩ = some (.int .i64 a1_2) ∧ w'.cell? ⟨gb526, 3, none⟩ = some (.int .i64 a1_3) ∧ w'.cell? ⟨gb526, 4, none⟩ = some (.int .i64 a1_4) ∧ w'.cell? ⟨gb526, 5, none⟩ = some (.int .i64 a1_5) ∧ w'.cell? ⟨gb526, 6, none⟩ = some (.int .i64 a1_6)) (ds := []) tb9 (by kernel_rfl) rfl rfl ⟨(uB BK526.out 0).trans rfl, (uB BK526.out 1).trans rfl, (uB BK526.out 2).trans rfl, (uB BK526.out 3).trans rfl, (uB BK526.out 4).trans rfl, (uB BK526.out 5).trans rfl, (uB BK526.out 6).trans rfl⟩ (fun hHeld => ?_)
    generalize w34.drew = w10 at BK526 HB hHeld ⊢
    refine uG 0 (some 7) tb26 ?_
    refine takeTk 2 (some 9) tb35 ?_
    refine join_ (σ := Value × Value) 2 tb1 (fun s_ => [(8, s_.1), (10, s_.2)]) (fun s_ w' => (w'.cell? ⟨gb526, 0, none⟩ = some (.int .i64 a1_0) ∧ w'.cell? ⟨gb526, 1, none⟩ = some (.int .i64 a1_1) ∧ w'.cell? ⟨gb526, 2, none⟩ = some (.int .i64 a1_2) ∧ w'.cell? ⟨gb526, 3, none⟩ = some (.int .i64 a1_3) ∧ w'.cell? ⟨gb526, 4, none⟩ = some (.int .i64 a1_4) ∧ w'.cell? ⟨gb526, 5, none⟩ = some (.int .i64 a1_5) ∧ w'.cell? ⟨gb526, 6, none⟩ = some (.int .i64 a1_6)) ∧ (Kd.R k72 72 w' w.heap.size (fun k_ => some k_ ≠ (s_.2 : Value).ownBlock ∧ k_ ≠ gb526) s_.1 t527) ∧ (Kd.R k72 72 w' w.heap.size (fun k_ => some k_ ≠ (s_.1 : Value).ownBlock ∧ k_ ≠ gb526) s_.2 y530) ∧ (w'.heap[gb526]? = some (.cells #[.int .i64 a1_0, .int .i64 a1_1, .int .i64 a1_2, .int .i64 a1_3, .int .i64 a1_4, .int .i64 a1_5, .int .i64 a1_6] 72 (0, 0))) ∧ (Below w.heap.size w w')) ?_ ?_
    rotate_left
    · intro hCont
      refine two_ (i := 1) (j := 3) (Ni := some 8) (Nj := some 10) tb10 tb40 rfl rfl rfl rfl (by kernel_rfl) (by decide) (by decide) (fun K hK => ?_) (fun K hK => ?_)
      · skip
        refine goesT Try.func77 #[.slice A0 l0.length c0] ?_
        with_reducible refine (spec_l5Copy.calls _ _ l0 t527 _ ?side1 ?side2 A3.out).mono ?_
        (case side1 => exact cq7)
        (case side2 => exact HC0.out)
        rintro e w11 ⟨v528, rfl, ho0, hb⟩
        refine ⟨_, rfl, ?_⟩
        have HO529 := Aside0.mk (Kd.uS (Kd.R_newB ho0 (g := gb526) (o := .cells #[.int .i64 a1_0, .int .i64 a1_1, .int .i64 a1_2, .int .i64 a1_3, .int .i64 a1_4, .int .i64 a1_5, .int .i64 a1_6] 72 (0, 0)) (rSB BK526.out)) (uO vA))
        replace BK526 := uP BK526 hb
        replace HB := vB HB hb
        (try clear hb)
        (try clear ho0)
        refine hK.out _ _ ⟨(uB BK526.out 0).trans rfl, (uB BK526.out 1).trans rfl, (uB BK526.out 2).trans rfl, (uB BK526.out 3).trans rfl, (uB BK526.out 4).trans rfl, (uB BK526.out 5).trans rfl, (uB BK526.out 6).trans rfl⟩ (fun hHeld => ?_)
        clear hK K
        refine vL (some 8) ?_
        refine one_ (i := 3) (N := some 10) tb1 rfl rfl (by kernel_rfl) (by decide) (fun K hK => ?_)
        refine Kd.R_lit_step k72 _ 72 ?hg (N := 10) ?hd (xs := ([(⟨a1_0, (⟨a1_1, a1_2, a1_3, a1_4, a1_5, a1_6⟩ : S37)⟩ : S72)] : List (S72))) (inner := [.int .i64 a1_0, .int .i64 a1_1, .int .i64 a1_2, .int .i64 a1_3, .int .i64 a1_4, .int .i64 a1_5, .int .i64 a1_6]) (ok := fun _ => True) (okp := fun _ => True) ?hr ?hp (fun _ hk => hk) trivial (Below.refl _ _) (Nat.le_refl _) (by simp) ?_; (case hd => rfl); (case hg => rfl); (case hr => first | (go_simp; done) | (go_simp; rfl)); (case hp => exact (vN.c7 (show Kd.M k72 _ _ _ (⟨a1_0, (⟨a1_1, a1_2, a1_3, a1_4, a1_5, a1_6⟩ : S37)⟩ : S72) [.int .i64 a1_0, .int .i64 a1_1, .int .i64 a1_2, .int .i64 a1_3, .int .i64 a1_4, .int .i64 a1_5, .int .i64 a1_6] from (k72_mkM _ _ _ (⟨a1_0, (⟨a1_1, a1_2, a1_3, a1_4, a1_5, a1_6⟩ : S37)⟩ : S72) )) (vN.none _ _)))
        intro v531 w12 ho13 hb hg_ hnew_
        clear hg_ hnew_
        (first | rw [← Ny530.out] at ho13 | (simp only [Int.reduceToNat] at ho13; rw [← Ny530.out] at ho13))
        have HO532 := Aside0.mk (Kd.uS (Kd.R_newB (Kd.vT ho13 (Kd.R_lt (uZ HO529.out))) (g := gb526) (o := .cells #[.int .i64 a1_0, .int .i64 a1_1, .int .i64 a1_2, .int .i64 a1_3, .int .i64 a1_4, .int .i64 a1_5, .int .i64 a1_6] 72 (0, 0)) (rSB BK526.out)) (uO vA))
        replace HO529 := Aside0.mk (Kd.vI (uZ HO529.out) (Kd.vS ho13) hb)
        replace BK526 := uP BK526 hb
        replace HB := vB HB hb
        clear hb ho13
        refine hK.out _ _ ⟨(uB BK526.out 0).trans rfl, (uB BK526.out 1).trans rfl, (uB BK526.out 2).trans rfl, (uB BK526.out 3).trans rfl, (uB BK526.out 4).trans rfl, (uB BK526.out 5).trans rfl, (uB BK526.out 6).trans rfl⟩ (fun hHeld => ?_)
        clear hK K
        refine vL (some 10) ?_
        exact vE cq45 (hCont (v528, v531) _ ⟨hHeld, cq136, cq137, (rSB BK526.out), vA⟩)
      skip
      refine Kd.R_lit_step k72 _ 72 ?hg (N := 10) ?hd (xs := ([(⟨a1_0, (⟨a1_1, a1_2, a1_3, a1_4, a1_5, a1_6⟩ : S37)⟩ : S72)] : List (S72))) (inner := [.int .i64 a1_0, .int .i64 a1_1, .int .i64 a1_2, .int .i64 a1_3, .int .i64 a1_4, .int .i64 a1_5, .int .i64 a1_6]) (ok := fun _ => True) (okp := fun _ => True) ?hr ?hp (fun _ hk => hk) trivial (Below.refl _ _) (Nat.le_refl _) (by simp) ?_; (case hd => rfl); (case hg => rfl); (case hr => first | (go_simp; done) | (go_simp; rfl)); (case hp => exact (vN.c7 (show Kd.M k72 _ _ _ (⟨a1_0, (⟨a1_1, a1_2, a1_3, a1_4, a1_5, a1_6⟩ : S37)⟩ : S72) [.int .i64 a1_0, .int .i64 a1_1, .int .i64 a1_2, .int .i64 a1_3, .int .i64 a1_4, .int .i64 a1_5, .int .i64 a1_6] from (k72_mkM _ _ _ (⟨a1_0, (⟨a1_1, a1_2, a1_3, a1_4, a1_5, a1_6⟩ : S37)⟩ : S72) )) (vN.none _ _)))
      intro v531 w11 ho12 hb hg_ hnew_
      clear hg_ hnew_
      (first | rw [← Ny530.out] at ho12 | (simp only [Int.reduceToNat] at ho12; rw [← Ny530.out] at ho12))
      have HO532 := Aside0.mk (Kd.uS (Kd.R_newB ho12 (g := gb526) (o := .cells #[.int .i64 a1_0, .int .i64 a1_1, .int .i64 a1_2, .int .i64 a1_3, .int .i64 a1_4, .int .i64 a1_5, .int .i64 a1_6] 72 (0, 0)) (rSB BK526.out)) (uO vA))
      replace BK526 := uP BK526 hb
      replace HB := vB HB hb
      clear hb ho12
      refine hK.out _ _ ⟨(uB BK526.out 0).trans rfl, (uB BK526.out 1).trans rfl, (uB BK526.out 2).trans rfl, (uB BK526.out 3).trans rfl, (uB BK526.out 4).trans rfl, (uB BK526.out 5).trans rfl, (uB BK526.out 6).trans rfl⟩ (fun hHeld => ?_)
      clear hK K
      refine vL (some 10) ?_
      refine one_ (i := 1) (N := some 8) tb1 rfl rfl (by kernel_rfl) (by decide) (fun K hK => ?_)
      refine goesT Try.func77 #[.slice A0 l0.length c0] ?_
      with_reducible refine (spec_l5Copy.calls _ _ l0 t527 _ ?side1 ?side2 A3.out).mono ?_
      (case side1 => exact cq7)
      (case side2 => exact HC0.out)
      rintro e w13 ⟨v528, rfl, ho0, hb⟩
      refine ⟨_, rfl, ?_⟩
      have HO529 := Aside0.mk (Kd.uS (Kd.R_newB (Kd.vT ho0 (Kd.R_lt (uZ HO532.out))) (g := gb526) (o := .cells #[.int .i64 a1_0, .int .i64 a1_1, .int .i64 a1_2, .int .i64 a1_3, .int .i64 a1_4, .int .i64 a1_5, .int .i64 a1_6] 72 (0, 0)) (rSB BK526.out)) (uO vA))
      replace HO532 := Aside0.mk (Kd.vI (uZ HO532.out) (Kd.vS ho0) hb)
      replace BK526 := uP BK526 hb
      replace HB := vB HB hb
      (try clear hb)
      (try clear ho0)
      refine hK.out _ _ ⟨(uB BK526.out 0).trans rfl, (uB BK526.out 1).trans rfl, (uB BK526.out 2).trans rfl, (uB BK526.out 3).trans rfl, (uB BK526.out 4).trans rfl, (uB BK526.out 5).trans rfl, (uB BK526.out 6).trans rfl⟩ (fun hHeld => ?_)
      clear hK K
      refine vL (some 8) ?_
      exact vE cq45 (hCont (v528, v531) _ ⟨hHeld, cq138, cq139, (rSB BK526.out), vA⟩)
    rintro ⟨v528, v531⟩ w14 ⟨hS_, h0_, h1_, h2_, h3_⟩
    have n0_ : Aside0 (Kd.R k72 72 w14 w.heap.size (fun k_ => some k_ ≠ (v531 : Value).ownBlock ∧ k_ ≠ gb526) v528 t527) := ⟨h0_⟩
    have n1_ : Aside0 (Kd.R k72 72 w14 w.heap.size (fun k_ => some k_ ≠ (v528 : Value).ownBlock ∧ k_ ≠ gb526) v531 y530) := ⟨h1_⟩
    have n2_ : Aside0 (w14.heap[gb526]? = some (.cells #[.int .i64 a1_0, .int .i64 a1_1, .int .i64 a1_2, .int .i64 a1_3, .int .i64 a1_4, .int .i64 a1_5, .int .i64 a1_6] 72 (0, 0))) := ⟨h2_⟩
    have n3_ : Aside0 (Below w.heap.size w w14) := ⟨h3_⟩
    clear BK526
    clear HB
    clear h0_ h1_ h2_ h3_
    have HO529 := n0_
    have HO532 := n1_
    have BK526 := n2_
    have HB := n3_
    clear n0_ n1_ n2_ n3_
    have hHeld : w14.cell? ⟨gb526, 0, none⟩ = some (.int .i64 a1_0) ∧ w14.cell? ⟨gb526, 1, none⟩ = some (.int .i64 a1_1) ∧ w14.cell? ⟨gb526, 2, none⟩ = some (.int .i64 a1_2) ∧ w14.cell? ⟨gb526, 3, none⟩ = some (.int .i64 a1_3) ∧ w14.cell? ⟨gb526, 4, none⟩ = some (.int .i64 a1_4) ∧ w14.cell? ⟨gb526, 5, none⟩ = some (.int .i64 a1_5) ∧ w14.cell? ⟨gb526, 6, none⟩ = some (.int .i64 a1_6) := hS_
    obtain ⟨Ao16, co16, eo16⟩ := Kd.uY HO532.out
    (first | subst eo16 | (injection eo16 with f1_ f2_ f3_; have f4_ := f1_.symm; have f5_ := f3_.symm; clear f1_ f2_ f3_; subst f4_; subst f5_))
    refine vE (a' := ?_) ?_ ?_
    rotate_left
    · simp only [putAll, Act.put, yA, yB, yC]
      rfl
    refine one_ (i := 4) (N := some 11) tb11 rfl rfl (by kernel_rfl) (by decide) (fun K hK => ?_)
    refine Kd.vZ k72 (w0 := w) w.heap.size (by rfl) (.tmp 8) (.tmp 10) 58 72 (.agg #[(.int .i64 0), (.int .i64 0), (.int .i64 0), (.int .i64 0), (.int .i64 0), (.int .i64 0), (.int .i64 0)]) 56 rfl Try.underlying58 info72 rfl (by decide) (by omega) v528 t527 y530 _ _ _ (fun k_ => some k_ ≠ (.slice Ao16 y530.length co16 : Value).ownBlock ∧ k_ ≠ gb526) (fun _ => False) rfl rfl ?aO ?aR (fun _ _ h => h) (fun _ h => h.elim) ?aF ?aB ?aS ?aL ?_
    (case aR => exact cq117)
    (case aB => exact cq25)
    (case aF => exact cq66)
    (case aO => exact (uZ HO529.out))
    (case aS => exact cq23)
    (case aL => have := LMc4.out; omega)
    intro v534 w15 ho hb hg hat
    rw [← Ny533.out] at ho
    have n0_ := tGr BK526 hg (Kd.R_away HO529.out (fun _ hk => hk.2))
    have n1_ := Aside0.mk (Kd.R_after (ok := (fun k_ => k_ ≠ gb526)) cq142 hg hat)
    have n2_ := Aside0.mk (hb)
    have n3_ := Aside0.mk (ho)
    clear BK526
    clear HO532
    clear HB
    clear HO529
    have BK526 := n0_
    have HO532 := n1_
    have HB := n2_
    have HO535 := n3_
    clear n0_ n1_ n2_ n3_
    clear ho hb hg hat
    refine hK.out _ _ ⟨(uB BK526.out 0).trans rfl, (uB BK526.out 1).trans rfl, (uB BK526.out 2).trans rfl, (uB BK526.out 3).trans rfl, (uB BK526.out 4).trans rfl, (uB BK526.out 5).trans rfl, (uB BK526.out 6).trans rfl⟩ (fun hHeld => ?_)
    clear hK K
    refine vL (some 11) ?_
    refine uG 5 (some 6) tb12 ?_
    refine done_ (by kernel_rfl) ?_
    try go_wp2_with (first | ((with_reducible refine uF (f := 67) rfl ?_); refine uX (some 13) Try.func67 #[.slice A0 l0.length c0] ?_; (with_reducible refine (spec_IsLog.calls k _ _ l0 true _ ?side1 ?side2 A5.out).mono ?_); (case side1 => exact cq7); (case side2 => exact HC0.out); rintro e w17 ⟨rfl, hb⟩; refine ⟨_, rfl, ?_⟩; replace HO532 := Kd.tR HO532 hb; replace HO535 := Kd.tR HO535 hb; replace BK526 := uP BK526 hb; replace HB := vB HB hb; (try clear hb); obtain ⟨Ao18, co18, eo18⟩ := Kd.uY HO535.out; subst eo18) | (go_at_call 67; (with_reducible refine (spec_IsLog.calls k _ _ y533 true _ ?side1 ?side2 A7.out).mono ?_); (case side1 => repeat (first | exact (Kd.uK HO535.out).2.2 | (with_reducible refine Kd.vW ?_ _) | (with_reducible refine Kd.vV ?_ _) | (with_reducible refine Kd.C_drew ?_))); (case side2 => exact (Kd.uK HO535.out).2.1); rintro e w19 ⟨rfl, hb⟩; replace HO532 := Kd.tR HO532 hb; replace HO535 := Kd.tR HO535 hb; replace BK526 := uP BK526 hb; replace HB := vB HB hb; (try clear hb)))
    go_ret2
    exact ⟨_, cq3, by (with_reducible repeat (first | apply Kd.uQ | apply Kd.uR | apply Kd.uV)); exact Kd.uN HO535.out (fun _ hk => trivial), vA⟩
  replace c8 := Bool.eq_false_iff.mpr c8
  subst c8
  try rw [if_neg (show ¬ (false = true) by decide)] at H
  replace H := Option.bind_eq_some_iff.mp H
  obtain ⟨t538, A200, H⟩ := H
  try dsimp only at H
  have A20 := Aside0.mk A200
  clear A200
  simp only [Option.some.injEq, Prod.mk.injEq] at H
  obtain ⟨rfl, rfl⟩ := H
  try go_wp2
  replace BK526 := Aside0.mk (uE BK526.out)
  replace HB := Aside0.mk (vM HB.out)
  refine start_ (n := 6) (S := fun w' => w'.cell? ⟨gb526, 0, none⟩ = some (.int .i64 a1_0) ∧ w'.cell? ⟨gb526, 1, none⟩ = some (.int .i64 a1_1) ∧ w'.cell? ⟨gb526, 2, none⟩ = some (.int .i64 a1_2) ∧ w'.cell? ⟨gb526, 3, none⟩ = some (.int .i64 a1_3) ∧ w'.cell? ⟨gb526, 4, none⟩ = some (.int .i64 a1_4) ∧ w'.cell? ⟨gb526, 5, none⟩ = some (.int .i64 a1_5) ∧ w'.cell? ⟨gb526, 6, none⟩ = some (.int .i64 a1_6)) (ds := []) tb9 (by kernel_rfl) rfl rfl ⟨(uB BK526.out 0).trans rfl, (uB BK526.out 1).trans rfl, (uB BK526.out 2).trans rfl, (uB BK526.out 3).trans rfl, (uB BK526.out 4).trans rfl, (uB BK526.out 5).trans rfl, (uB BK526.out 6).trans rfl⟩ (fun hHeld => ?_)
  generalize w34.drew = w22 at BK526 HB hHeld ⊢
  refine uG 0 (some 7) tb26 ?_
  refine takeTk 2 (some 9) tb35 ?_
  refine join_ (σ := Value × Value) 2 tb1 (fun s_ => [(8, s_.1), (10, s_.2)]) (fun s_ w' => (w'.cell? ⟨gb526, 0, none⟩ = some (.int .i64 a1_0) ∧ w'.cell? ⟨gb526, 1, none⟩ = some (.int .i64 a1_1) ∧ w'.cell? ⟨gb526, 2, none⟩ = some (.int .i64 a1_2) ∧ w'.cell? ⟨gb526, 3, none⟩ = some (.int .i64 a1_3) ∧ w'.cell? ⟨gb526, 4, none⟩ = some (.int .i64 a1_4) ∧ w'.cell? ⟨gb526, 5, none⟩ = some (.int .i64 a1_5) ∧ w'.cell? ⟨gb526, 6, none⟩ = some (.int .i64 a1_6)) ∧ (Kd.R k72 72 w' w.heap.size (fun k_ => some k_ ≠ (s_.2 : Value).ownBlock ∧ k_ ≠ gb526) s_.1 t527) ∧ (Kd.R k72 72 w' w.heap.size (fun k_ => some k_ ≠ (s_.1 : Value).ownBlock ∧ k_ ≠ gb526) s_.2 y530) ∧ (w'.heap[gb526]? = some (.cells #[.int .i64 a1_0, .int .i64 a1_1, .int .i64 a1_2, .int .i64 a1_3, .int .i64 a1_4, .int .i64 a1_5, .int .i64 a1_6] 72 (0, 0))) ∧ (Below w.heap.size w w')) ?_ ?_
  rotate_left
  · intro hCont
    refine two_ (i := 1) (j := 3) (Ni := some 8) (Nj := some 10) tb10 tb40 rfl rfl rfl rfl (by kernel_rfl) (by decide) (by decide) (fun K hK => ?_) (fun K hK => ?_)
    · skip
      refine goesT Try.func77 #[.slice A0 l0.length c0] ?_
      with_reducible refine (spec_l5Copy.calls _ _ l0 t527 _ ?side1 ?side2 A3.out).mono ?_
      (case side1 => exact cq7)
      (case side2 => exact HC0.out)
      rintro e w23 ⟨v528, rfl, ho0, hb⟩
      refine ⟨_, rfl, ?_⟩
      have HO529 := Aside0.mk (Kd.uS (Kd.R_newB ho0 (g := gb526) (o := .cells #[.int .i64 a1_0, .int .i64 a1_1, .int .i64 a1_2, .int .i64 a1_3, .int .i64 a1_4, .int .i64 a1_5, .int .i64 a1_6] 72 (0, 0)) (rSB BK526.out)) (uO vA))
      replace BK526 := uP BK526 hb
      replace HB := vB HB hb
      (try clear hb)
      (try clear ho0)
      refine hK.out _ _ ⟨(uB BK526.out 0).trans rfl, (uB BK526.out 1).trans rfl, (uB BK526.out 2).trans rfl, (uB BK526.out 3).trans rfl, (uB BK526.out 4).trans rfl, (uB BK526.out 5).trans rfl, (uB BK526.out 6).trans rfl⟩ (fun hHeld => ?_)
      clear hK K
      refine vL (some 8) ?_
      refine one_ (i := 3) (N := some 10) tb1 rfl rfl (by kernel_rfl) (by decide) (fun K hK => ?_)
      refine Kd.R_lit_step k72 _ 72 ?hg (N := 10) ?hd (xs := ([(⟨a1_0, (⟨a1_1, a1_2, a1_3, a1_4, a1_5, a1_6⟩ : S37)⟩ : S72)] : List (S72))) (inner := [.int .i64 a1_0, .int .i64 a1_1, .int .i64 a1_2, .int .i64 a1_3, .int .i64 a1_4, .int .i64 a1_5, .int .i64 a1_6]) (ok := fun _ => True) (okp := fun _ => True) ?hr ?hp (fun _ hk => hk) trivial (Below.refl _ _) (Nat.le_refl _) (by simp) ?_; (case hd => rfl); (case hg => rfl); (case hr => first | (go_simp; done) | (go_simp; rfl)); (case hp => exact (vN.c7 (show Kd.M k72 _ _ _ (⟨a1_0, (⟨a1_1, a1_2, a1_3, a1_4, a1_5, a1_6⟩ : S37)⟩ : S72) [.int .i64 a1_0, .int .i64 a1_1, .int .i64 a1_2, .int .i64 a1_3, .int .i64 a1_4, .int .i64 a1_5, .int .i64 a1_6] from (k72_mkM _ _ _ (⟨a1_0, (⟨a1_1, a1_2, a1_3, a1_4, a1_5, a1_6⟩ : S37)⟩ : S72) )) (vN.none _ _)))
      intro v531 w24 ho25 hb hg_ hnew_
      clear hg_ hnew_
      (first | rw [← Ny530.out] at ho25 | (simp only [Int.reduceToNat] at ho25; rw [← Ny530.out] at ho25))
      have HO532 := Aside0.mk (Kd.uS (Kd.R_newB (Kd.vT ho25 (Kd.R_lt (uZ HO529.out))) (g := gb526) (o := .cells #[.int .i64 a1_0, .int .i64 a1_1, .int .i64 a1_2, .int .i64 a1_3, .int .i64 a1_4, .int .i64 a1_5, .int .i64 a1_6] 72 (0, 0)) (rSB BK526.out)) (uO vA))
      replace HO529 := Aside0.mk (Kd.vI (uZ HO529.out) (Kd.vS ho25) hb)
      replace BK526 := uP BK526 hb
      replace HB := vB HB hb
      clear hb ho25
      refine hK.out _ _ ⟨(uB BK526.out 0).trans rfl, (uB BK526.out 1).trans rfl, (uB BK526.out 2).trans rfl, (uB BK526.out 3).trans rfl, (uB BK526.out 4).trans rfl, (uB BK526.out 5).trans rfl, (uB BK526.out 6).trans rfl⟩ (fun hHeld => ?_)
      clear hK K
      refine vL (some 10) ?_
      exact vE cq45 (hCont (v528, v531) _ ⟨hHeld, cq136, cq137, (rSB BK526.out), vA⟩)
    skip
    refine Kd.R_lit_step k72 _ 72 ?hg (N := 10) ?hd (xs := ([(⟨a1_0, (⟨a1_1, a1_2, a1_3, a1_4, a1_5, a1_6⟩ : S37)⟩ : S72)] : List (S72))) (inner := [.int .i64 a1_0, .int .i64 a1_1, .int .i64 a1_2, .int .i64 a1_3, .int .i64 a1_4, .int .i64 a1_5, .int .i64 a1_6]) (ok := fun _ => True) (okp := fun _ => True) ?hr ?hp (fun _ hk => hk) trivial (Below.refl _ _) (Nat.le_refl _) (by simp) ?_; (case hd => rfl); (case hg => rfl); (case hr => first | (go_simp; done) | (go_simp; rfl)); (case hp => exact (vN.c7 (show Kd.M k72 _ _ _ (⟨a1_0, (⟨a1_1, a1_2, a1_3, a1_4, a1_5, a1_6⟩ : S37)⟩ : S72) [.int .i64 a1_0, .int .i64 a1_1, .int .i64 a1_2, .int .i64 a1_3, .int .i64 a1_4, .int .i64 a1_5, .int .i64 a1_6] from (k72_mkM _ _ _ (⟨a1_0, (⟨a1_1, a1_2, a1_3, a1_4, a1_5, a1_6⟩ : S37)⟩ : S72) )) (vN.none _ _)))
    intro v531 w23 ho24 hb hg_ hnew_
    clear hg_ hnew_
    (first | rw [← Ny530.out] at ho24 | (simp only [Int.reduceToNat] at ho24; rw [← Ny530.out] at ho24))
    have HO532 := Aside0.mk (Kd.uS (Kd.R_newB ho24 (g := gb526) (o := .cells #[.int .i64 a1_0, .int .i64 a1_1, .int .i64 a1_2, .int .i64 a1_3, .int .i64 a1_4, .int .i64 a1_5, .int .i64 a1_6] 72 (0, 0)) (rSB BK526.out)) (uO vA))
    replace BK526 := uP BK526 hb
    replace HB := vB HB hb
    clear hb ho24
    refine hK.out _ _ ⟨(uB BK526.out 0).trans rfl, (uB BK526.out 1).trans rfl, (uB BK526.out 2).trans rfl, (uB BK526.out 3).trans rfl, (uB BK526.out 4).trans rfl, (uB BK526.out 5).trans rfl, (uB BK526.out 6).trans rfl⟩ (fun hHeld => ?_)
    clear hK K
    refine vL (some 10) ?_
    refine one_ (i := 1) (N := some 8) tb1 rfl rfl (by kernel_rfl) (by decide) (fun K hK => ?_)
    refine goesT Try.func77 #[.slice A0 l0.length c0] ?_
    with_reducible refine (spec_l5Copy.calls _ _ l0 t527 _ ?side1 ?side2 A3.out).mono ?_
    (case side1 => exact cq7)
    (case side2 => exact HC0.out)
    rintro e w25 ⟨v528, rfl, ho0, hb⟩
    refine ⟨_, rfl, ?_⟩
    have HO529 := Aside0.mk (Kd.uS (Kd.R_newB (Kd.vT ho0 (Kd.R_lt (uZ HO532.out))) (g := gb526) (o := .cells #[.int .i64 a1_0, .int .i64 a1_1, .int .i64 a1_2, .int .i64 a1_3, .int .i64 a1_4, .int .i64 a1_5, .int .i64 a1_6] 72 (0, 0)) (rSB BK526.out)) (uO vA))
    replace HO532 := Aside0.mk (Kd.vI (uZ HO532.out) (Kd.vS ho0) hb)
    replace BK526 := uP BK526 hb
    replace HB := vB HB hb
    (try clear hb)
    (try clear ho0)
    refine hK.out _ _ ⟨(uB BK526.out 0).trans rfl, (uB BK526.out 1).trans rfl, (uB BK526.out 2).trans rfl, (uB BK526.out 3).trans rfl, (uB BK526.out 4).trans rfl, (uB BK526.out 5).trans rfl, (uB BK526.out 6).trans rfl⟩ (fun hHeld => ?_)
    clear hK K
    refine vL (some 8) ?_
    exact vE cq45 (hCont (v528, v531) _ ⟨hHeld, cq138, cq139, (rSB BK526.out), vA⟩)
  rintro ⟨v528, v531⟩ w26 ⟨hS_, h0_, h1_, h2_, h3_⟩
  have n0_ : Aside0 (Kd.R k72 72 w26 w.heap.size (fun k_ => some k_ ≠ (v531 : Value).ownBlock ∧ k_ ≠ gb526) v528 t527) := ⟨h0_⟩
  have n1_ : Aside0 (Kd.R k72 72 w26 w.heap.size (fun k_ => some k_ ≠ (v528 : Value).ownBlock ∧ k_ ≠ gb526) v531 y530) := ⟨h1_⟩
  have n2_ : Aside0 (w26.heap[gb526]? = some (.cells #[.int .i64 a1_0, .int .i64 a1_1, .int .i64 a1_2, .int .i64 a1_3, .int .i64 a1_4, .int .i64 a1_5, .int .i64 a1_6] 72 (0, 0))) := ⟨h2_⟩
  have n3_ : Aside0 (Below w.heap.size w w26) := ⟨h3_⟩
  clear BK526
  clear HB
  clear h0_ h1_ h2_ h3_
  have HO529 := n0_
  have HO532 := n1_
  have BK526 := n2_
  have HB := n3_
  clear n0_ n1_ n2_ n3_
  have hHeld : w26.cell? ⟨gb526, 0, none⟩ = some (.int .i64 a1_0) ∧ w26.cell? ⟨gb526, 1, none⟩ = some (.int .i64 a1_1) ∧ w26.cell? ⟨gb526, 2, none⟩ = some (.int .i64 a1_2) ∧ w26.cell? ⟨gb526, 3, none⟩ = some (.int .i64 a1_3) ∧ w26.cell? ⟨gb526, 4, none⟩ = some (.int .i64 a1_4) ∧ w26.cell? ⟨gb526, 5, none⟩ = some (.int .i64 a1_5) ∧ w26.cell? ⟨gb526, 6, none⟩ = some (.int .i64 a1_6) := hS_
  obtain ⟨Ao28, co28, eo28⟩ := Kd.uY HO532.out
  (first | subst eo28 | (injection eo28 with f1_ f2_ f3_; have f4_ := f1_.symm; have f5_ := f3_.symm; clear f1_ f2_ f3_; subst f4_; subst f5_))
  refine vE (a' := ?_) ?_ ?_
  rotate_left
  · simp only [putAll, Act.put, yA, yB, yC]
    rfl
  refine one_ (i := 4) (N := some 11) tb11 rfl rfl (by kernel_rfl) (by decide) (fun K hK => ?_)
  refine Kd.vZ k72 (w0 := w) w.heap.size (by rfl) (.tmp 8) (.tmp 10) 58 72 (.agg #[(.int .i64 0), (.int .i64 0), (.int .i64 0), (.int .i64 0), (.int .i64 0), (.int .i64 0), (.int .i64 0)]) 56 rfl Try.underlying58 info72 rfl (by decide) (by omega) v528 t527 y530 _ _ _ (fun k_ => some k_ ≠ (.slice Ao28 y530.length co28 : Value).ownBlock ∧ k_ ≠ gb526) (fun _ => False) rfl rfl ?aO ?aR (fun _ _ h => h) (fun _ h => h.elim) ?aF ?aB ?aS ?aL ?_
  (case aR => exact cq117)
  (case aB => exact cq25)
  (case aF => exact cq66)
  (case aO => exact (uZ HO529.out))
  (case aS => exact cq23)
  (case aL => have := LMc4.out; omega)
  intro v534 w27 ho hb hg hat
  rw [← Ny533.out] at ho
  have n0_ := tGr BK526 hg (Kd.R_away HO529.out (fun _ hk => hk.2))
  have n1_ := Aside0.mk (Kd.R_after (ok := (fun k_ => k_ ≠ gb526)) cq142 hg hat)
  have n2_ := Aside0.mk (hb)
  have n3_ := Aside0.mk (ho)
  clear BK526
  clear HO532
  clear HB
  clear HO529
  have BK526 := n0_
  have HO532 := n1_
  have HB := n2_
  have HO535 := n3_
  clear n0_ n1_ n2_ n3_
  clear ho hb hg hat
  refine hK.out _ _ ⟨(uB BK526.out 0).trans rfl, (uB BK526.out 1).trans rfl, (uB BK526.out 2).trans rfl, (uB BK526.out 3).trans rfl, (uB BK526.out 4).trans rfl, (uB BK526.out 5).trans rfl, (uB BK526.out 6).trans rfl⟩ (fun hHeld => ?_)
  clear hK K
  refine vL (some 11) ?_
  refine uG 5 (some 6) tb12 ?_
  refine done_ (by kernel_rfl) ?_
  try go_wp2_with (first | ((with_reducible refine uF (f := 67) rfl ?_); refine uX (some 13) Try.func67 #[.slice A0 l0.length c0] ?_; (with_reducible refine (spec_IsLog.calls k _ _ l0 true _ ?side1 ?side2 A5.out).mono ?_); (case side1 => exact cq7); (case side2 => exact HC0.out); rintro e w29 ⟨rfl, hb⟩; refine ⟨_, rfl, ?_⟩; replace HO532 := Kd.tR HO532 hb; replace HO535 := Kd.tR HO535 hb; replace BK526 := uP BK526 hb; replace HB := vB HB hb; (try clear hb); obtain ⟨Ao30, co30, eo30⟩ := Kd.uY HO535.out; subst eo30) | (go_at_call 67; (with_reducible refine (spec_IsLog.calls k _ _ y533 false _ ?side1 ?side2 A7.out).mono ?_); (case side1 => repeat (first | exact (Kd.uK HO535.out).2.2 | (with_reducible refine Kd.vW ?_ _) | (with_reducible refine Kd.vV ?_ _) | (with_reducible refine Kd.C_drew ?_))); (case side2 => exact (Kd.uK HO535.out).2.1); rintro e w31 ⟨rfl, hb⟩; replace HO532 := Kd.tR HO532 hb; replace HO535 := Kd.tR HO535 hb; replace BK526 := uP BK526 hb; replace HB := vB HB hb; (try clear hb)) | ((with_reducible refine uF (f := 77) rfl ?_); refine uX (some 21) Try.func77 #[.slice A0 l0.length c0] ?_; (with_reducible refine (spec_l5Copy.calls _ _ l0 t538 _ ?side1 ?side2 A20.out).mono ?_); (case side1 => exact cq7); (case side2 => exact HC0.out); rintro e w32 ⟨v539, rfl, ho0, hb⟩; refine ⟨_, rfl, ?_⟩; have HO540 := Aside0.mk (Kd.uS (Kd.R_newB (Kd.vT (Kd.vT ho0 (Kd.R_lt (uZ HO532.out))) (Kd.R_lt (uZ HO535.out))) (g := gb526) (o := .cells #[.int .i64 a1_0, .int .i64 a1_1, .int .i64 a1_2, .int .i64 a1_3, .int .i64 a1_4, .int .i64 a1_5, .int .i64 a1_6] 72 (0, 0)) (rSB BK526.out)) (uO vA)); replace HO532 := Aside0.mk (Kd.vI (uZ HO532.out) (Kd.vS ho0) hb); replace HO535 := Aside0.mk (Kd.vI (uZ HO535.out) (Kd.vS ho0) hb); replace BK526 := uP BK526 hb; replace HB := vB HB hb; (try clear hb); (try clear ho0)))
  go_ret2
  exact ⟨_, cq3, by (with_reducible repeat (first | apply Kd.uQ | apply Kd.uR | apply Kd.uV)); exact Kd.uN HO540.out (fun _ hk => trivial), vA⟩

end Go.Proofs.Ytcikahnmiiichaa.N
