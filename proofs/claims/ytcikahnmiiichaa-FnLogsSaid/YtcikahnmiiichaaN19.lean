/- Go functions as Lean functions, and the proof that the code comes to them: written by a program of this session out of the translation. -/
import Derived.Test.YtcikahnmiiichaaN0
import Derived.Test.YtcikahnmiiichaaN15
namespace Go.Proofs.Ytcikahnmiiichaa.N
open List renaming setIfInBounds_toArray → yA, set_cons_zero → yB, set_cons_succ → yC, map_toArray → yD
open Go.World renaming block_lt_of_cell? → yG
open Go.RowKit Go.Proofs.YtcikahnmiiichaaW.PrintWords Go.Proofs.YtcikahnmiiichaaW.PrintLast Go.Proofs.YtcikahnmiiichaaW.PrintMore
attribute [local go_sem] max2_int min2_int max_two min_two vX vY max_four min_four   -- for this text's walks alone
set_option linter.unusedVariables false
set_option linter.unusedSimpArgs false

/-! ### slices_Clone_impl_Entry_impl_Entry: function 76 -/
def slices_Clone_impl_Entry_impl_Entry.f (l0 : List (S72)) : Option (List (S72)) := if l0.length < 2513169434916 then some l0 else none
set_option maxHeartbeats 8000000 in
set_option maxRecDepth 100000 in
theorem slices_Clone_impl_Entry_impl_Entry.calls (A0 : Option Addr) (c0 : Nat) (l0 : List (S72)) (r : List (S72)) (w : World) (hr0 : Kd.C k72 w A0 l0.length l0) (hc0 : l0.length ≤ c0) (h : slices_Clone_impl_Entry_impl_Entry.f l0 = some r) :
    Calls Try.prog 76 #[.slice A0 l0.length c0] w fun e w' => ∃ v0_ : Value, e = .returned (v0_) ∧ Kd.R k72 72 w' w.heap.size (fun _ => True) v0_ r ∧ Below w.heap.size w w' := by
  have HR0 := Aside0.mk hr0
  have HC0 := Aside0.mk hc0
  have HB := Aside0.mk (Below.refl w.heap.size w)
  unfold slices_Clone_impl_Entry_impl_Entry.f at h
  by_cases c2 : l0.length < 2513169434916
  rotate_left
  · rw [if_neg c2] at h
    exact absurd h (by simp)
  rw [if_pos c2] at h
  obtain rfl := Option.some.inj h
  clear h
  have LMc2 := Aside0.mk c2
  have q_ : ∀ (w : World) (a : Option Addr) (n c n' c' : Nat), (binOp .eql 58 (.slice a n c) (.slice none n' c')).run Try.prog w = .ok (.bool a.isNone) w := fun w a n c n' c' => Lib.run_eql_slice_nil w _ _ a n c n' c' Try.underlying58
  cases A0 with
  | none =>
    have hl : l0 = [] := by
      rcases Nat.eq_zero_or_pos l0.length with h | h
      · exact List.length_eq_zero_iff.1 h
      obtain ⟨ad, e, _⟩ := hr0.2.2 h
      cases e
    subst hl
    clear hr0 hc0 c2 HR0 HC0 LMc2
    go_enter Try.func76, Try.ntmps76
    go_wp2
    go_ret
    exact ⟨_, rfl, Kd.R_nil _ _ _ _ _, HB.out⟩
  | some ad =>
    clear hr0 hc0 c2
    go_enter Try.func76, Try.ntmps76
    go_wp2_with (first | ((with_reducible refine uJ (N := 5) rfl ?_); refine Kd.R_lit k72 _ 72 ?hg (N := 5) ?hd (xs := ([] : List (S72))) (inner := []) (ok := fun _ => True) (okp := fun _ => True) ?hr ?hp (fun _ hk => hk) trivial (Below.refl _ _) (Nat.le_refl _) (by simp) ?_; (case hd => rfl); (case hg => rfl); (case hr => first | (go_simp; done) | (go_simp; rfl)); (case hp => exact (vN.none _ _)); intro v134 w3 ho4 hb hg_ hnew_; clear hg_ hnew_; have HO135 := Aside0.mk (Kd.uS ho4 (uO cq9)); replace HB := vB HB hb; clear hb ho4) | ((with_reducible refine gate_builtin (b := .append) (xs := #[.tmp 5, .tmp 6]) rfl ?_); at_builtin; refine Kd.R_append_rows k72 (w0 := w) w.heap.size rfl (.tmp 5) (.tmp 6) 58 72 ((.agg #[(.int .i64 0), (.int .i64 0), (.int .i64 0), (.int .i64 0), (.int .i64 0), (.int .i64 0), (.int .i64 0)])) 56 rfl Try.underlying58 info72 rfl (by decide) (by omega) v134 ([] : List (S72)) l0 _ _ _ (fun _ => True) (fun _ => False) rfl rfl ?aO ?aR (fun _ _ h => h) (fun _ h => h.elim) ?aF ?aB ?aS ?aL ?_; (case aR => exact cq7); (case aB => exact cq101); (case aF => exact (fun _ _ => trivial)); (case aO => exact (uZ HO135.out)); (case aS => exact cq88); (case aL => have := LMc2.out; simp only [List.length_nil]; omega); intro v137 w5 ho hb hg hat; rw [List.nil_append] at ho; have n0_ := Aside0.mk (hb); have n1_ := Aside0.mk (ho); clear HB; clear HO135; have HB := n0_; have HO138 := n1_; clear n0_ n1_; clear ho hb hg hat))
    go_ret
    exact ⟨_, rfl, cq181, cq9⟩

/-! ### impl_AppendEntry: function 39 -/
def impl_AppendEntry.f (k : Nat) (l0 : List (S72)) (a1_0 : Int) (a1_1 : Int) (a1_2 : Int) (a1_3 : Int) (a1_4 : Int) (a1_5 : Int) (a1_6 : Int) : Option ((List (S72)) × Bool) := (slices_Clone_impl_Entry_impl_Entry.f l0).bind fun t513 => ((some (([(⟨a1_0, (⟨a1_1, a1_2, a1_3, a1_4, a1_5, a1_6⟩ : S37)⟩ : S72)] : List (S72)) : List (S72))).bind fun y516 => (if t513.length + y516.length < 2513169434916 then ((some (t513 ++ y516 : List (S72))).bind fun y519 => ((impl_IsLog.f k y519).bind fun t522 => (if t522 = true then (some (y519, true)) else ((slices_Clone_impl_Entry_impl_Entry.f l0).bind fun t523 => (some (t523, false)))))) else (none)))
theorem impl_AppendEntry.mono : ∀ a0 a1 a2 a3 a4 a5 a6 a7 k, uI (impl_AppendEntry.f k a0 a1 a2 a3 a4 a5 a6 a7) (impl_AppendEntry.f (k + 1) a0 a1 a2 a3 a4 a5 a6 a7) := by
  intro a0 a1 a2 a3 a4 a5 a6 a7 k
  unfold impl_AppendEntry.f
  repeat' first
      | (with_reducible exact impl_IsLog.mono _ _)
      | (with_reducible exact uI.refl _)
      | (with_reducible exact uI.none _)
      | (with_reducible refine uI.ite ?_ ?_)
      | (with_reducible refine uI.bind ?_ (fun _ => ?_))
      | exact uI.none _
      | refine uI.ite ?_ ?_
      | refine uI.bind ?_ (fun _ => ?_)
set_option maxHeartbeats 8000000 in
set_option maxRecDepth 100000 in
theorem impl_AppendEntry.calls (k : Nat) (A0 : Option Addr) (c0 : Nat) (l0 : List (S72)) (a1_0 : Int) (a1_1 : Int) (a1_2 : Int) (a1_3 : Int) (a1_4 : Int) (a1_5 : Int) (a1_6 : Int) (r1 : List (S72)) (r2 : Bool) (w : World) (hr0 : Kd.C k72 w A0 l0.length l0) (hc0 : l0.length ≤ c0) (h : impl_AppendEntry.f k l0 a1_0 a1_1 a1_2 a1_3 a1_4 a1_5 a1_6 = some (r1, r2)) :
    Calls Try.prog 39 #[.slice A0 l0.length c0, .agg #[.int .i64 a1_0, .int .i64 a1_1, .int .i64 a1_2, .int .i64 a1_3, .int .i64 a1_4, .int .i64 a1_5, .int .i64 a1_6]] w fun e w' => ∃ v0_ : Value, e = .returned (.tuple #[v0_, .bool r2]) ∧ Kd.R k72 72 w' w.heap.size (fun _ => True) v0_ r1 ∧ Below w.heap.size w w' := by
  have hu72 := Try.underlying72
  have HR0 := Aside0.mk hr0
  have HC0 := Aside0.mk hc0
  clear hr0 hc0
  have HB := Aside0.mk (Below.refl w.heap.size w)
  have H : ((slices_Clone_impl_Entry_impl_Entry.f l0).bind fun t513 => ((some (([(⟨a1_0, (⟨a1_1, a1_2, a1_3, a1_4, a1_5, a1_6⟩ : S37)⟩ : S72)] : List (S72)) : List (S72))).bind fun y516 => (if t513.length + y516.length < 2513169434916 then ((some (t513 ++ y516 : List (S72))).bind fun y519 => ((impl_IsLog.f k y519).bind fun t522 => (if t522 = true then (some (y519, true)) else ((slices_Clone_impl_Entry_impl_Entry.f l0).bind fun t523 => (some (t523, false)))))) else (none)))) = some (r1, r2) := h
  clear h
  replace H := Option.bind_eq_some_iff.mp H
  obtain ⟨t513, A30, H⟩ := H
  try dsimp only at H
  have A3 := Aside0.mk A30
  clear A30
  obtain ⟨y516, hy516⟩ : ∃ y_ : List (S72), y_ = (([(⟨a1_0, (⟨a1_1, a1_2, a1_3, a1_4, a1_5, a1_6⟩ : S37)⟩ : S72)] : List (S72))) := ⟨_, rfl⟩
  replace H : (if t513.length + y516.length < 2513169434916 then ((some (t513 ++ y516 : List (S72))).bind fun y519 => ((impl_IsLog.f k y519).bind fun t522 => (if t522 = true then (some (y519, true)) else ((slices_Clone_impl_Entry_impl_Entry.f l0).bind fun t523 => (some (t523, false)))))) else (none)) = some (r1, r2) := rpl hy516 H
  have Ny516 := Aside0.mk hy516
  clear hy516
  go_enter Try.func39, Try.ntmps39
  go_wp2_with (first | ((with_reducible refine uJ (N := 3) rfl ?_); refine bxe 3 #[.int .i64 a1_0, .int .i64 a1_1, .int .i64 a1_2, .int .i64 a1_3, .int .i64 a1_4, .int .i64 a1_5, .int .i64 a1_6] 72 ?_; intro gb512 hg w7 hbox hb; have BK512 := Aside0.mk (hbox); have GW512 := tGe HB hg; have GE512 := tGe HB hg; replace HB := vB HB hb; clear hb hbox hg; refine ?roundEnd))
  case roundEnd =>
  obtain ⟨LMc4, H⟩ := ifL H
  obtain ⟨y519, hy519⟩ : ∃ y_ : List (S72), y_ = (t513 ++ y516) := ⟨_, rfl⟩
  replace H : ((impl_IsLog.f k y519).bind fun t522 => (if t522 = true then (some (y519, true)) else ((slices_Clone_impl_Entry_impl_Entry.f l0).bind fun t523 => (some (t523, false))))) = some (r1, r2) := rpl hy519 H
  have Ny519 := Aside0.mk hy519
  clear hy519
  replace H := Option.bind_eq_some_iff.mp H
  obtain ⟨t522, A50, H⟩ := H
  try dsimp only at H
  have A5 := Aside0.mk A50
  clear A50
  by_cases c6 : t522 = true
  · subst c6
    try rw [if_pos rfl] at H
    simp only [Option.some.injEq, Prod.mk.injEq] at H
    obtain ⟨rfl, rfl⟩ := H
    try go_wp2
    replace BK512 := Aside0.mk (uE BK512.out)
    replace HB := Aside0.mk (vM HB.out)
    refine start_ (n := 6) (S := fun w' => w'.cell? ⟨gb512, 0, none⟩ = some (.int .i64 a1_0) ∧ w'.cell? ⟨gb512, 1, none⟩ = some (.int .i64 a1_1) ∧ w'.cell? ⟨gb512, 2, none⟩ = some (.int .i64 a1_2) ∧ w'.cell? ⟨gb512, 3, none⟩ = some (.int .i64 a1_3) ∧ w'.cell? ⟨gb512, 4, none⟩ = some (.int .i64 a1_4) ∧ w'.cell? ⟨gb512, 5, none⟩ = some (.int .i64 a1_5) ∧ w'.cell? ⟨gb512, 6, none⟩ = some (.int .i64 a1_6)) (ds := []) tb9 (by kernel_rfl) rfl rfl ⟨(uB BK512.out 0).trans rfl, (uB BK512.out 1).trans rfl, (uB BK512.out 2).trans rfl, (uB BK512.out 3).trans rfl, (uB BK512.out 4).trans rfl, (uB BK512.out 5).trans rfl, (uB BK512.out 6).trans rfl⟩ (fun hHeld => ?_)
    generalize w7.drew = w8 at BK512 HB hHeld ⊢
    refine uG 0 (some 7) tb26 ?_
    refine takeTk 2 (some 9) tb35 ?_
    refine join_ (σ := Value × Value) 2 tb1 (fun s_ => [(8, s_.1), (10, s_.2)]) (fun s_ w' => (w'.cell? ⟨gb512, 0, none⟩ = some (.int .i64 a1_0) ∧ w'.cell? ⟨gb512, 1, none⟩ = some (.int .i64 a1_1) ∧ w'.cell? ⟨gb512, 2, none⟩ = some (.int .i64 a1_2) ∧ w'.cell? ⟨gb512, 3, none⟩ = some (.int .i64 a1_3) ∧ w'.cell? ⟨gb512, 4, none⟩ = some (.int .i64 a1_4) ∧ w'.cell? ⟨gb512, 5, none⟩ = some (.int .i64 a1_5) ∧ w'.cell? ⟨gb512, 6, none⟩ = some (.int .i64 a1_6)) ∧ (Kd.R k72 72 w' w.heap.size (fun k_ => some k_ ≠ (s_.2 : Value).ownBlock ∧ k_ ≠ gb512) s_.1 t513) ∧ (Kd.R k72 72 w' w.heap.size (fun k_ => some k_ ≠ (s_.1 : Value).ownBlock ∧ k_ ≠ gb512) s_.2 y516) ∧ (w'.heap[gb512]? = some (.cells #[.int .i64 a1_0, .int .i64 a1_1, .int .i64 a1_2, .int .i64 a1_3, .int .i64 a1_4, .int .i64 a1_5, .int .i64 a1_6] 72 (0, 0))) ∧ (Below w.heap.size w w')) ?_ ?_
    rotate_left
    · intro hCont
      refine two_ (i := 1) (j := 3) (Ni := some 8) (Nj := some 10) tb10 tb40 rfl rfl rfl rfl (by kernel_rfl) (by decide) (by decide) (fun K hK => ?_) (fun K hK => ?_)
      · skip
        refine goesT Try.func76 #[.slice A0 l0.length c0] ?_
        with_reducible refine (slices_Clone_impl_Entry_impl_Entry.calls _ _ l0 t513 _ ?side1 ?side2 A3.out).mono ?_
        (case side1 => exact cq7)
        (case side2 => exact HC0.out)
        rintro e w9 ⟨v514, rfl, ho0, hb⟩
        refine ⟨_, rfl, ?_⟩
        have HO515 := Aside0.mk (Kd.uS (Kd.R_newB ho0 (g := gb512) (o := .cells #[.int .i64 a1_0, .int .i64 a1_1, .int .i64 a1_2, .int .i64 a1_3, .int .i64 a1_4, .int .i64 a1_5, .int .i64 a1_6] 72 (0, 0)) (rSB BK512.out)) (uO vA))
        replace BK512 := uP BK512 hb
        replace HB := vB HB hb
        (try clear hb)
        (try clear ho0)
        refine hK.out _ _ ⟨(uB BK512.out 0).trans rfl, (uB BK512.out 1).trans rfl, (uB BK512.out 2).trans rfl, (uB BK512.out 3).trans rfl, (uB BK512.out 4).trans rfl, (uB BK512.out 5).trans rfl, (uB BK512.out 6).trans rfl⟩ (fun hHeld => ?_)
        clear hK K
        refine vL (some 8) ?_
        refine one_ (i := 3) (N := some 10) tb1 rfl rfl (by kernel_rfl) (by decide) (fun K hK => ?_)
        refine Kd.R_lit_step k72 _ 72 ?hg (N := 10) ?hd (xs := ([(⟨a1_0, (⟨a1_1, a1_2, a1_3, a1_4, a1_5, a1_6⟩ : S37)⟩ : S72)] : List (S72))) (inner := [.int .i64 a1_0, .int .i64 a1_1, .int .i64 a1_2, .int .i64 a1_3, .int .i64 a1_4, .int .i64 a1_5, .int .i64 a1_6]) (ok := fun _ => True) (okp := fun _ => True) ?hr ?hp (fun _ hk => hk) trivial (Below.refl _ _) (Nat.le_refl _) (by simp) ?_; (case hd => rfl); (case hg => rfl); (case hr => first | (go_simp; done) | (go_simp; rfl)); (case hp => exact (vN.c7 (show Kd.M k72 _ _ _ (⟨a1_0, (⟨a1_1, a1_2, a1_3, a1_4, a1_5, a1_6⟩ : S37)⟩ : S72) [.int .i64 a1_0, .int .i64 a1_1, .int .i64 a1_2, .int .i64 a1_3, .int .i64 a1_4, .int .i64 a1_5, .int .i64 a1_6] from (k72_mkM _ _ _ (⟨a1_0, (⟨a1_1, a1_2, a1_3, a1_4, a1_5, a1_6⟩ : S37)⟩ : S72) )) (vN.none _ _)))
        intro v517 w10 ho11 hb hg_ hnew_
        clear hg_ hnew_
        (first | rw [← Ny516.out] at ho11 | (simp only [Int.reduceToNat] at ho11; rw [← Ny516.out] at ho11))
        have HO518 := Aside0.mk (Kd.uS (Kd.R_newB (Kd.vT ho11 (Kd.R_lt (uZ HO515.out))) (g := gb512) (o := .cells #[.int .i64 a1_0, .int .i64 a1_1, .int .i64 a1_2, .int .i64 a1_3, .int .i64 a1_4, .int .i64 a1_5, .int .i64 a1_6] 72 (0, 0)) (rSB BK512.out)) (uO vA))
        replace HO515 := Aside0.mk (Kd.vI (uZ HO515.out) (Kd.vS ho11) hb)
        replace BK512 := uP BK512 hb
        replace HB := vB HB hb
        clear hb ho11
        refine hK.out _ _ ⟨(uB BK512.out 0).trans rfl, (uB BK512.out 1).trans rfl, (uB BK512.out 2).trans rfl, (uB BK512.out 3).trans rfl, (uB BK512.out 4).trans rfl, (uB BK512.out 5).trans rfl, (uB BK512.out 6).trans rfl⟩ (fun hHeld => ?_)
        clear hK K
        refine vL (some 10) ?_
        exact vE cq45 (hCont (v514, v517) _ ⟨hHeld, (by (with_reducible repeat (first | apply Kd.uQ | apply Kd.uR | apply Kd.uV)); exact Kd.uN HO515.out (fun _ hk => ⟨hk.2, hk.1.2⟩)), (by (with_reducible repeat (first | apply Kd.uQ | apply Kd.uR | apply Kd.uV)); exact Kd.uN HO518.out (fun _ hk => ⟨hk.1.2, hk.2⟩)), (rSB BK512.out), vA⟩)
      skip
      refine Kd.R_lit_step k72 _ 72 ?hg (N := 10) ?hd (xs := ([(⟨a1_0, (⟨a1_1, a1_2, a1_3, a1_4, a1_5, a1_6⟩ : S37)⟩ : S72)] : List (S72))) (inner := [.int .i64 a1_0, .int .i64 a1_1, .int .i64 a1_2, .int .i64 a1_3, .int .i64 a1_4, .int .i64 a1_5, .int .i64 a1_6]) (ok := fun _ => True) (okp := fun _ => True) ?hr ?hp (fun _ hk => hk) trivial (Below.refl _ _) (Nat.le_refl _) (by simp) ?_; (case hd => rfl); (case hg => rfl); (case hr => first | (go_simp; done) | (go_simp; rfl)); (case hp => exact (vN.c7 (show Kd.M k72 _ _ _ (⟨a1_0, (⟨a1_1, a1_2, a1_3, a1_4, a1_5, a1_6⟩ : S37)⟩ : S72) [.int .i64 a1_0, .int .i64 a1_1, .int .i64 a1_2, .int .i64 a1_3, .int .i64 a1_4, .int .i64 a1_5, .int .i64 a1_6] from (k72_mkM _ _ _ (⟨a1_0, (⟨a1_1, a1_2, a1_3, a1_4, a1_5, a1_6⟩ : S37)⟩ : S72) )) (vN.none _ _)))
      intro v517 w9 ho10 hb hg_ hnew_
      clear hg_ hnew_
      (first | rw [← Ny516.out] at ho10 | (simp only [Int.reduceToNat] at ho10; rw [← Ny516.out] at ho10))
      have HO518 := Aside0.mk (Kd.uS (Kd.R_newB ho10 (g := gb512) (o := .cells #[.int .i64 a1_0, .int .i64 a1_1, .int .i64 a1_2, .int .i64 a1_3, .int .i64 a1_4, .int .i64 a1_5, .int .i64 a1_6] 72 (0, 0)) (rSB BK512.out)) (uO vA))
      replace BK512 := uP BK512 hb
      replace HB := vB HB hb
      clear hb ho10
      refine hK.out _ _ ⟨(uB BK512.out 0).trans rfl, (uB BK512.out 1).trans rfl, (uB BK512.out 2).trans rfl, (uB BK512.out 3).trans rfl, (uB BK512.out 4).trans rfl, (uB BK512.out 5).trans rfl, (uB BK512.out 6).trans rfl⟩ (fun hHeld => ?_)
      clear hK K
      refine vL (some 10) ?_
      refine one_ (i := 1) (N := some 8) tb1 rfl rfl (by kernel_rfl) (by decide) (fun K hK => ?_)
      refine goesT Try.func76 #[.slice A0 l0.length c0] ?_
      with_reducible refine (slices_Clone_impl_Entry_impl_Entry.calls _ _ l0 t513 _ ?side1 ?side2 A3.out).mono ?_
      (case side1 => exact cq7)
      (case side2 => exact HC0.out)
      rintro e w11 ⟨v514, rfl, ho0, hb⟩
      refine ⟨_, rfl, ?_⟩
      have HO515 := Aside0.mk (Kd.uS (Kd.R_newB (Kd.vT ho0 (Kd.R_lt (uZ HO518.out))) (g := gb512) (o := .cells #[.int .i64 a1_0, .int .i64 a1_1, .int .i64 a1_2, .int .i64 a1_3, .int .i64 a1_4, .int .i64 a1_5, .int .i64 a1_6] 72 (0, 0)) (rSB BK512.out)) (uO vA))
      replace HO518 := Aside0.mk (Kd.vI (uZ HO518.out) (Kd.vS ho0) hb)
      replace BK512 := uP BK512 hb
      replace HB := vB HB hb
      (try clear hb)
      (try clear ho0)
      refine hK.out _ _ ⟨(uB BK512.out 0).trans rfl, (uB BK512.out 1).trans rfl, (uB BK512.out 2).trans rfl, (uB BK512.out 3).trans rfl, (uB BK512.out 4).trans rfl, (uB BK512.out 5).trans rfl, (uB BK512.out 6).trans rfl⟩ (fun hHeld => ?_)
      clear hK K
      refine vL (some 8) ?_
      exact vE cq45 (hCont (v514, v517) _ ⟨hHeld, (by (with_reducible repeat (first | apply Kd.uQ | apply Kd.uR | apply Kd.uV)); exact Kd.uN HO515.out (fun _ hk => ⟨hk.1.2, hk.2⟩)), (by (with_reducible repeat (first | apply Kd.uQ | apply Kd.uR | apply Kd.uV)); exact Kd.uN HO518.out (fun _ hk => ⟨hk.2, hk.1.2⟩)), (rSB BK512.out), vA⟩)
    rintro ⟨v514, v517⟩ w12 ⟨hS_, h0_, h1_, h2_, h3_⟩
    have n0_ : Aside0 (Kd.R k72 72 w12 w.heap.size (fun k_ => some k_ ≠ (v517 : Value).ownBlock ∧ k_ ≠ gb512) v514 t513) := ⟨h0_⟩
    have n1_ : Aside0 (Kd.R k72 72 w12 w.heap.size (fun k_ => some k_ ≠ (v514 : Value).ownBlock ∧ k_ ≠ gb512) v517 y516) := ⟨h1_⟩
    have n2_ : Aside0 (w12.heap[gb512]? = some (.cells #[.int .i64 a1_0, .int .i64 a1_1, .int .i64 a1_2, .int .i64 a1_3, .int .i64 a1_4, .int .i64 a1_5, .int .i64 a1_6] 72 (0, 0))) := ⟨h2_⟩
    have n3_ : Aside0 (Below w.heap.size w w12) := ⟨h3_⟩
    clear BK512
    clear HB
    clear h0_ h1_ h2_ h3_
    have HO515 := n0_
    have HO518 := n1_
    have BK512 := n2_
    have HB := n3_
    clear n0_ n1_ n2_ n3_
    have hHeld : w12.cell? ⟨gb512, 0, none⟩ = some (.int .i64 a1_0) ∧ w12.cell? ⟨gb512, 1, none⟩ = some (.int .i64 a1_1) ∧ w12.cell? ⟨gb512, 2, none⟩ = some (.int .i64 a1_2) ∧ w12.cell? ⟨gb512, 3, none⟩ = some (.int .i64 a1_3) ∧ w12.cell? ⟨gb512, 4, none⟩ = some (.int .i64 a1_4) ∧ w12.cell? ⟨gb512, 5, none⟩ = some (.int .i64 a1_5) ∧ w12.cell? ⟨gb512, 6, none⟩ = some (.int .i64 a1_6) := hS_
    obtain ⟨Ao14, co14, eo14⟩ := Kd.uY HO518.out
    (first | subst eo14 | (injection eo14 with f1_ f2_ f3_; have f4_ := f1_.symm; have f5_ := f3_.symm; clear f1_ f2_ f3_; subst f4_; subst f5_))
    refine vE (a' := ?_) ?_ ?_
    rotate_left
    · simp only [putAll, Act.put, yA, yB, yC]
      rfl
    refine one_ (i := 4) (N := some 11) tb11 rfl rfl (by kernel_rfl) (by decide) (fun K hK => ?_)
    refine Kd.vZ k72 (w0 := w) w.heap.size (by rfl) (.tmp 8) (.tmp 10) 58 72 (.agg #[(.int .i64 0), (.int .i64 0), (.int .i64 0), (.int .i64 0), (.int .i64 0), (.int .i64 0), (.int .i64 0)]) 56 rfl Try.underlying58 info72 rfl (by decide) (by omega) v514 t513 y516 _ _ _ (fun k_ => some k_ ≠ (.slice Ao14 y516.length co14 : Value).ownBlock ∧ k_ ≠ gb512) (fun _ => False) rfl rfl ?aO ?aR (fun _ _ h => h) (fun _ h => h.elim) ?aF ?aB ?aS ?aL ?_
    (case aR => repeat (first | exact (Kd.uK HO518.out).2.2 | (with_reducible refine Kd.vW ?_ _) | (with_reducible refine Kd.vV ?_ _) | (with_reducible refine Kd.C_drew ?_)))
    (case aB => exact cq25)
    (case aF => exact (fun k_ hk => ⟨Kd.fresh' (Kd.R_lt (uZ HO518.out)) k_ hk, Kd.freshB (g := gb512) (o := .cells #[.int .i64 a1_0, .int .i64 a1_1, .int .i64 a1_2, .int .i64 a1_3, .int .i64 a1_4, .int .i64 a1_5, .int .i64 a1_6] 72 (0, 0)) (rSB BK512.out) k_ hk⟩))
    (case aO => exact (uZ HO515.out))
    (case aS => exact cq23)
    (case aL => have := LMc4.out; omega)
    intro v520 w13 ho hb hg hat
    rw [← Ny519.out] at ho
    have n0_ := tGr BK512 hg (Kd.R_away HO515.out (fun _ hk => hk.2))
    have n1_ := Aside0.mk (Kd.R_after (ok := (fun k_ => k_ ≠ gb512)) (by (with_reducible repeat (first | apply Kd.uQ | apply Kd.uR | apply Kd.uV)); exact Kd.uN HO518.out (fun _ hk => ⟨hk.2, hk.1⟩)) hg hat)
    have n2_ := Aside0.mk (hb)
    have n3_ := Aside0.mk (ho)
    clear BK512
    clear HO518
    clear HB
    clear HO515
    have BK512 := n0_
    have HO518 := n1_
    have HB := n2_
    have HO521 := n3_
    clear n0_ n1_ n2_ n3_
    clear ho hb hg hat
    refine hK.out _ _ ⟨(uB BK512.out 0).trans rfl, (uB BK512.out 1).trans rfl, (uB BK512.out 2).trans rfl, (uB BK512.out 3).trans rfl, (uB BK512.out 4).trans rfl, (uB BK512.out 5).trans rfl, (uB BK512.out 6).trans rfl⟩ (fun hHeld => ?_)
    clear hK K
    refine vL (some 11) ?_
    refine uG 5 (some 6) tb12 ?_
    refine done_ (by kernel_rfl) ?_
    obtain ⟨Ao15, co15, eo15⟩ := Kd.uY HO521.out
    subst eo15
    try go_wp2_with (first | ((with_reducible refine uF (f := 41) rfl ?_); refine uX (some 13) Try.func41 #[.slice Ao15 y519.length co15] ?_; (with_reducible refine (impl_IsLog.calls k _ _ y519 true _ ?side1 ?side2 A5.out).mono ?_); (case side1 => repeat (first | exact (Kd.uK HO521.out).2.2 | (with_reducible refine Kd.vW ?_ _) | (with_reducible refine Kd.vV ?_ _) | (with_reducible refine Kd.C_drew ?_))); (case side2 => exact (Kd.uK HO521.out).2.1); rintro e w16 ⟨rfl, hb⟩; refine ⟨_, rfl, ?_⟩; replace HO518 := Kd.tR HO518 hb; replace HO521 := Kd.tR HO521 hb; replace BK512 := uP BK512 hb; replace HB := vB HB hb; (try clear hb)))
    go_ret2
    exact ⟨_, cq3, by (with_reducible repeat (first | apply Kd.uQ | apply Kd.uR | apply Kd.uV)); exact Kd.uN HO521.out (fun _ hk => trivial), vA⟩
  replace c6 := Bool.eq_false_iff.mpr c6
  subst c6
  try rw [if_neg (show ¬ (false = true) by decide)] at H
  replace H := Option.bind_eq_some_iff.mp H
  obtain ⟨t523, A170, H⟩ := H
  try dsimp only at H
  have A17 := Aside0.mk A170
  clear A170
  simp only [Option.some.injEq, Prod.mk.injEq] at H
  obtain ⟨rfl, rfl⟩ := H
  try go_wp2
  replace BK512 := Aside0.mk (uE BK512.out)
  replace HB := Aside0.mk (vM HB.out)
  refine start_ (n := 6) (S := fun w' => w'.cell? ⟨gb512, 0, none⟩ = some (.int .i64 a1_0) ∧ w'.cell? ⟨gb512, 1, none⟩ = some (.int .i64 a1_1) ∧ w'.cell? ⟨gb512, 2, none⟩ = some (.int .i64 a1_2) ∧ w'.cell? ⟨gb512, 3, none⟩ = some (.int .i64 a1_3) ∧ w'.cell? ⟨gb512, 4, none⟩ = some (.int .i64 a1_4) ∧ w'.cell? ⟨gb512, 5, none⟩ = some (.int .i64 a1_5) ∧ w'.cell? ⟨gb512, 6, none⟩ = some (.int .i64 a1_6)) (ds := []) tb9 (by kernel_rfl) rfl rfl ⟨(uB BK512.out 0).trans rfl, (uB BK512.out 1).trans rfl, (uB BK512.out 2).trans rfl, (uB BK512.out 3).trans rfl, (uB BK512.out 4).trans rfl, (uB BK512.out 5).trans rfl, (uB BK512.out 6).trans rfl⟩ (fun hHeld => ?_)
  generalize w7.drew = w19 at BK512 HB hHeld ⊢
  refine uG 0 (some 7) tb26 ?_
  refine takeTk 2 (some 9) tb35 ?_
  refine join_ (σ := Value × Value) 2 tb1 (fun s_ => [(8, s_.1), (10, s_.2)]) (fun s_ w' => (w'.cell? ⟨gb512, 0, none⟩ = some (.int .i64 a1_0) ∧ w'.cell? ⟨gb512, 1, none⟩ = some (.int .i64 a1_1) ∧ w'.cell? ⟨gb512, 2, none⟩ = some (.int .i64 a1_2) ∧ w'.cell? ⟨gb512, 3, none⟩ = some (.int .i64 a1_3) ∧ w'.cell? ⟨gb512, 4, none⟩ = some (.int .i64 a1_4) ∧ w'.cell? ⟨gb512, 5, none⟩ = some (.int .i64 a1_5) ∧ w'.cell? ⟨gb512, 6, none⟩ = some (.int .i64 a1_6)) ∧ (Kd.R k72 72 w' w.heap.size (fun k_ => some k_ ≠ (s_.2 : Value).ownBlock ∧ k_ ≠ gb512) s_.1 t513) ∧ (Kd.R k72 72 w' w.heap.size (fun k_ => some k_ ≠ (s_.1 : Value).ownBlock ∧ k_ ≠ gb512) s_.2 y516) ∧ (w'.heap[gb512]? = some (.cells #[.int .i64 a1_0, .int .i64 a1_1, .int .i64 a1_2, .int .i64 a1_3, .int .i64 a1_4, .int .i64 a1_5, .int .i64 a1_6] 72 (0, 0))) ∧ (Below w.heap.size w w')) ?_ ?_
  rotate_left
  · intro hCont
    refine two_ (i := 1) (j := 3) (Ni := some 8) (Nj := some 10) tb10 tb40 rfl rfl rfl rfl (by kernel_rfl) (by decide) (by decide) (fun K hK => ?_) (fun K hK => ?_)
    · skip
      refine goesT Try.func76 #[.slice A0 l0.length c0] ?_
      with_reducible refine (slices_Clone_impl_Entry_impl_Entry.calls _ _ l0 t513 _ ?side1 ?side2 A3.out).mono ?_
      (case side1 => exact cq7)
      (case side2 => exact HC0.out)
      rintro e w20 ⟨v514, rfl, ho0, hb⟩
      refine ⟨_, rfl, ?_⟩
      have HO515 := Aside0.mk (Kd.uS (Kd.R_newB ho0 (g := gb512) (o := .cells #[.int .i64 a1_0, .int .i64 a1_1, .int .i64 a1_2, .int .i64 a1_3, .int .i64 a1_4, .int .i64 a1_5, .int .i64 a1_6] 72 (0, 0)) (rSB BK512.out)) (uO vA))
      replace BK512 := uP BK512 hb
      replace HB := vB HB hb
      (try clear hb)
      (try clear ho0)
      refine hK.out _ _ ⟨(uB BK512.out 0).trans rfl, (uB BK512.out 1).trans rfl, (uB BK512.out 2).trans rfl, (uB BK512.out 3).trans rfl, (uB BK512.out 4).trans rfl, (uB BK512.out 5).trans rfl, (uB BK512.out 6).trans rfl⟩ (fun hHeld => ?_)
      clear hK K
      refine vL (some 8) ?_
      refine one_ (i := 3) (N := some 10) tb1 rfl rfl (by kernel_rfl) (by decide) (fun K hK => ?_)
      refine Kd.R_lit_step k72 _ 72 ?hg (N := 10) ?hd (xs := ([(⟨a1_0, (⟨a1_1, a1_2, a1_3, a1_4, a1_5, a1_6⟩ : S37)⟩ : S72)] : List (S72))) (inner := [.int .i64 a1_0, .int .i64 a1_1, .int .i64 a1_2, .int .i64 a1_3, .int .i64 a1_4, .int .i64 a1_5, .int .i64 a1_6]) (ok := fun _ => True) (okp := fun _ => True) ?hr ?hp (fun _ hk => hk) trivial (Below.refl _ _) (Nat.le_refl _) (by simp) ?_; (case hd => rfl); (case hg => rfl); (case hr => first | (go_simp; done) | (go_simp; rfl)); (case hp => exact (vN.c7 (show Kd.M k72 _ _ _ (⟨a1_0, (⟨a1_1, a1_2, a1_3, a1_4, a1_5, a1_6⟩ : S37)⟩ : S72) [.int .i64 a1_0, .int .i64 a1_1, .int .i64 a1_2, .int .i64 a1_3, .int .i64 a1_4, .int .i64 a1_5, .int .i64 a1_6] from (k72_mkM _ _ _ (⟨a1_0, (⟨a1_1, a1_2, a1_3, a1_4, a1_5, a1_6⟩ : S37)⟩ : S72) )) (vN.none _ _)))
      intro v517 w21 ho22 hb hg_ hnew_
      clear hg_ hnew_
      (first | rw [← Ny516.out] at ho22 | (simp only [Int.reduceToNat] at ho22; rw [← Ny516.out] at ho22))
      have HO518 := Aside0.mk (Kd.uS (Kd.R_newB (Kd.vT ho22 (Kd.R_lt (uZ HO515.out))) (g := gb512) (o := .cells #[.int .i64 a1_0, .int .i64 a1_1, .int .i64 a1_2, .int .i64 a1_3, .int .i64 a1_4, .int .i64 a1_5, .int .i64 a1_6] 72 (0, 0)) (rSB BK512.out)) (uO vA))
      replace HO515 := Aside0.mk (Kd.vI (uZ HO515.out) (Kd.vS ho22) hb)
      replace BK512 := uP BK512 hb
      replace HB := vB HB hb
      clear hb ho22
      refine hK.out _ _ ⟨(uB BK512.out 0).trans rfl, (uB BK512.out 1).trans rfl, (uB BK512.out 2).trans rfl, (uB BK512.out 3).trans rfl, (uB BK512.out 4).trans rfl, (uB BK512.out 5).trans rfl, (uB BK512.out 6).trans rfl⟩ (fun hHeld => ?_)
      clear hK K
      refine vL (some 10) ?_
      exact vE cq45 (hCont (v514, v517) _ ⟨hHeld, (by (with_reducible repeat (first | apply Kd.uQ | apply Kd.uR | apply Kd.uV)); exact Kd.uN HO515.out (fun _ hk => ⟨hk.2, hk.1.2⟩)), (by (with_reducible repeat (first | apply Kd.uQ | apply Kd.uR | apply Kd.uV)); exact Kd.uN HO518.out (fun _ hk => ⟨hk.1.2, hk.2⟩)), (rSB BK512.out), vA⟩)
    skip
    refine Kd.R_lit_step k72 _ 72 ?hg (N := 10) ?hd (xs := ([(⟨a1_0, (⟨a1_1, a1_2, a1_3, a1_4, a1_5, a1_6⟩ : S37)⟩ : S72)] : List (S72))) (inner := [.int .i64 a1_0, .int .i64 a1_1, .int .i64 a1_2, .int .i64 a1_3, .int .i64 a1_4, .int .i64 a1_5, .int .i64 a1_6]) (ok := fun _ => True) (okp := fun _ => True) ?hr ?hp (fun _ hk => hk) trivial (Below.refl _ _) (Nat.le_refl _) (by simp) ?_; (case hd => rfl); (case hg => rfl); (case hr => first | (go_simp; done) | (go_simp; rfl)); (case hp => exact (vN.c7 (show Kd.M k72 _ _ _ (⟨a1_0, (⟨a1_1, a1_2, a1_3, a1_4, a1_5, a1_6⟩ : S37)⟩ : S72) [.int .i64 a1_0, .int .i64 a1_1, .int .i64 a1_2, .int .i64 a1_3, .int .i64 a1_4, .int .i64 a1_5, .int .i64 a1_6] from (k72_mkM _ _ _ (⟨a1_0, (⟨a1_1, a1_2, a1_3, a1_4, a1_5, a1_6⟩ : S37)⟩ : S72) )) (vN.none _ _)))
    intro v517 w20 ho21 hb hg_ hnew_
    clear hg_ hnew_
    (first | rw [← Ny516.out] at ho21 | (simp only [Int.reduceToNat] at ho21; rw [← Ny516.out] at ho21))
    have HO518 := Aside0.mk (Kd.uS (Kd.R_newB ho21 (g := gb512) (o := .cells #[.int .i64 a1_0, .int .i64 a1_1, .int .i64 a1_2, .int .i64 a1_3, .int .i64 a1_4, .int .i64 a1_5, .int .i64 a1_6] 72 (0, 0)) (rSB BK512.out)) (uO vA))
    replace BK512 := uP BK512 hb
    replace HB := vB HB hb
    clear hb ho21
    refine hK.out _ _ ⟨(uB BK512.out 0).trans rfl, (uB BK512.out 1).trans rfl, (uB BK512.out 2).trans rfl, (uB BK512.out 3).trans rfl, (uB BK512.out 4).trans rfl, (uB BK512.out 5).trans rfl, (uB BK512.out 6).trans rfl⟩ (fun hHeld => ?_)
    clear hK K
    refine vL (some 10) ?_
    refine one_ (i := 1) (N := some 8) tb1 rfl rfl (by kernel_rfl) (by decide) (fun K hK => ?_)
    refine goesT Try.func76 #[.slice A0 l0.length c0] ?_
    with_reducible refine (slices_Clone_impl_Entry_impl_Entry.calls _ _ l0 t513 _ ?side1 ?side2 A3.out).mono ?_
    (case side1 => exact cq7)
    (case side2 => exact HC0.out)
    rintro e w22 ⟨v514, rfl, ho0, hb⟩
    refine ⟨_, rfl, ?_⟩
    have HO515 := Aside0.mk (Kd.uS (Kd.R_newB (Kd.vT ho0 (Kd.R_lt (uZ HO518.out))) (g := gb512) (o := .cells #[.int .i64 a1_0, .int .i64 a1_1, .int .i64 a1_2, .int .i64 a1_3, .int .i64 a1_4, .int .i64 a1_5, .int .i64 a1_6] 72 (0, 0)) (rSB BK512.out)) (uO vA))
    replace HO518 := Aside0.mk (Kd.vI (uZ HO518.out) (Kd.vS ho0) hb)
    replace BK512 := uP BK512 hb
    replace HB := vB HB hb
    (try clear hb)
    (try clear ho0)
    refine hK.out _ _ ⟨(uB BK512.out 0).trans rfl, (uB BK512.out 1).trans rfl, (uB BK512.out 2).trans rfl, (uB BK512.out 3).trans rfl, (uB BK512.out 4).trans rfl, (uB BK512.out 5).trans rfl, (uB BK512.out 6).trans rfl⟩ (fun hHeld => ?_)
    clear hK K
    refine vL (some 8) ?_
    exact vE cq45 (hCont (v514, v517) _ ⟨hHeld, (by (with_reducible repeat (first | apply Kd.uQ | apply Kd.uR | apply Kd.uV)); exact Kd.uN HO515.out (fun _ hk => ⟨hk.1.2, hk.2⟩)), (by (with_reducible repeat (first | apply Kd.uQ | apply Kd.uR | apply Kd.uV)); exact Kd.uN HO518.out (fun _ hk => ⟨hk.2, hk.1.2⟩)), (rSB BK512.out), vA⟩)
  rintro ⟨v514, v517⟩ w23 ⟨hS_, h0_, h1_, h2_, h3_⟩
  have n0_ : Aside0 (Kd.R k72 72 w23 w.heap.size (fun k_ => some k_ ≠ (v517 : Value).ownBlock ∧ k_ ≠ gb512) v514 t513) := ⟨h0_⟩
  have n1_ : Aside0 (Kd.R k72 72 w23 w.heap.size (fun k_ => some k_ ≠ (v514 : Value).ownBlock ∧ k_ ≠ gb512) v517 y516) := ⟨h1_⟩
  have n2_ : Aside0 (w23.heap[gb512]? = some (.cells #[.int .i64 a1_0, .int .i64 a1_1, .int .i64 a1_2, .int .i64 a1_3, .int .i64 a1_4, .int .i64 a1_5, .int .i64 a1_6] 72 (0, 0))) := ⟨h2_⟩
  have n3_ : Aside0 (Below w.heap.size w w23) := ⟨h3_⟩
  clear BK512
  clear HB
  clear h0_ h1_ h2_ h3_
  have HO515 := n0_
  have HO518 := n1_
  have BK512 := n2_
  have HB := n3_
  clear n0_ n1_ n2_ n3_
  have hHeld : w23.cell? ⟨gb512, 0, none⟩ = some (.int .i64 a1_0) ∧ w23.cell? ⟨gb512, 1, none⟩ = some (.int .i64 a1_1) ∧ w23.cell? ⟨gb512, 2, none⟩ = some (.int .i64 a1_2) ∧ w23.cell? ⟨gb512, 3, none⟩ = some (.int .i64 a1_3) ∧ w23.cell? ⟨gb512, 4, none⟩ = some (.int .i64 a1_4) ∧ w23.cell? ⟨gb512, 5, none⟩ = some (.int .i64 a1_5) ∧ w23.cell? ⟨gb512, 6, none⟩ = some (.int .i64 a1_6) := hS_
  obtain ⟨Ao25, co25, eo25⟩ := Kd.uY HO518.out
  (first | subst eo25 | (injection eo25 with f1_ f2_ f3_; have f4_ := f1_.symm; have f5_ := f3_.symm; clear f1_ f2_ f3_; subst f4_; subst f5_))
  refine vE (a' := ?_) ?_ ?_
  rotate_left
  · simp only [putAll, Act.put, yA, yB, yC]
    rfl
  refine one_ (i := 4) (N := some 11) tb11 rfl rfl (by kernel_rfl) (by decide) (fun K hK => ?_)
  refine Kd.vZ k72 (w0 := w) w.heap.size (by rfl) (.tmp 8) (.tmp 10) 58 72 (.agg #[(.int .i64 0), (.int .i64 0), (.int .i64 0), (.int .i64 0), (.int .i64 0), (.int .i64 0), (.int .i64 0)]) 56 rfl Try.underlying58 info72 rfl (by decide) (by omega) v514 t513 y516 _ _ _ (fun k_ => some k_ ≠ (.slice Ao25 y516.length co25 : Value).ownBlock ∧ k_ ≠ gb512) (fun _ => False) rfl rfl ?aO ?aR (fun _ _ h => h) (fun _ h => h.elim) ?aF ?aB ?aS ?aL ?_
  (case aR => repeat (first | exact (Kd.uK HO518.out).2.2 | (with_reducible refine Kd.vW ?_ _) | (with_reducible refine Kd.vV ?_ _) | (with_reducible refine Kd.C_drew ?_)))
  (case aB => exact cq25)
  (case aF => exact (fun k_ hk => ⟨Kd.fresh' (Kd.R_lt (uZ HO518.out)) k_ hk, Kd.freshB (g := gb512) (o := .cells #[.int .i64 a1_0, .int .i64 a1_1, .int .i64 a1_2, .int .i64 a1_3, .int .i64 a1_4, .int .i64 a1_5, .int .i64 a1_6] 72 (0, 0)) (rSB BK512.out) k_ hk⟩))
  (case aO => exact (uZ HO515.out))
  (case aS => exact cq23)
  (case aL => have := LMc4.out; omega)
  intro v520 w24 ho hb hg hat
  rw [← Ny519.out] at ho
  have n0_ := tGr BK512 hg (Kd.R_away HO515.out (fun _ hk => hk.2))
  have n1_ := Aside0.mk (Kd.R_after (ok := (fun k_ => k_ ≠ gb512)) (by (with_reducible repeat (first | apply Kd.uQ | apply Kd.uR | apply Kd.uV)); exact Kd.uN HO518.out (fun _ hk => ⟨hk.2, hk.1⟩)) hg hat)
  have n2_ := Aside0.mk (hb)
  have n3_ := Aside0.mk (ho)
  clear BK512
  clear HO518
  clear HB
  clear HO515
  have BK512 := n0_
  have HO518 := n1_
  have HB := n2_
  have HO521 := n3_
  clear n0_ n1_ n2_ n3_
  clear ho hb hg hat
  refine hK.out _ _ ⟨(uB BK512.out 0).trans rfl, (uB BK512.out 1).trans rfl, (uB BK512.out 2).trans rfl, (uB BK512.out 3).trans rfl, (uB BK512.out 4).trans rfl, (uB BK512.out 5).trans rfl, (uB BK512.out 6).trans rfl⟩ (fun hHeld => ?_)
  clear hK K
  refine vL (some 11) ?_
  refine uG 5 (some 6) tb12 ?_
  refine done_ (by kernel_rfl) ?_
  obtain ⟨Ao26, co26, eo26⟩ := Kd.uY HO521.out
  subst eo26
  try go_wp2_with (first | ((with_reducible refine uF (f := 41) rfl ?_); refine uX (some 13) Try.func41 #[.slice Ao26 y519.length co26] ?_; (with_reducible refine (impl_IsLog.calls k _ _ y519 false _ ?side1 ?side2 A5.out).mono ?_); (case side1 => repeat (first | exact (Kd.uK HO521.out).2.2 | (with_reducible refine Kd.vW ?_ _) | (with_reducible refine Kd.vV ?_ _) | (with_reducible refine Kd.C_drew ?_))); (case side2 => exact (Kd.uK HO521.out).2.1); rintro e w27 ⟨rfl, hb⟩; refine ⟨_, rfl, ?_⟩; replace HO518 := Kd.tR HO518 hb; replace HO521 := Kd.tR HO521 hb; replace BK512 := uP BK512 hb; replace HB := vB HB hb; (try clear hb)) | ((with_reducible refine uF (f := 76) rfl ?_); refine uX (some 16) Try.func76 #[.slice A0 l0.length c0] ?_; (with_reducible refine (slices_Clone_impl_Entry_impl_Entry.calls _ _ l0 t523 _ ?side1 ?side2 A17.out).mono ?_); (case side1 => exact cq7); (case side2 => exact HC0.out); rintro e w28 ⟨v524, rfl, ho0, hb⟩; refine ⟨_, rfl, ?_⟩; have HO525 := Aside0.mk (Kd.uS (Kd.R_newB (Kd.vT (Kd.vT ho0 (Kd.R_lt (uZ HO518.out))) (Kd.R_lt (uZ HO521.out))) (g := gb512) (o := .cells #[.int .i64 a1_0, .int .i64 a1_1, .int .i64 a1_2, .int .i64 a1_3, .int .i64 a1_4, .int .i64 a1_5, .int .i64 a1_6] 72 (0, 0)) (rSB BK512.out)) (uO vA)); replace HO518 := Aside0.mk (Kd.vI (uZ HO518.out) (Kd.vS ho0) hb); replace HO521 := Aside0.mk (Kd.vI (uZ HO521.out) (Kd.vS ho0) hb); replace BK512 := uP BK512 hb; replace HB := vB HB hb; (try clear hb); (try clear ho0)))
  go_ret2
  exact ⟨_, cq3, by (with_reducible repeat (first | apply Kd.uQ | apply Kd.uR | apply Kd.uV)); exact Kd.uN HO525.out (fun _ hk => trivial), vA⟩

end Go.Proofs.Ytcikahnmiiichaa.N
