/- Go functions as Lean functions, and the proof that the code comes to them: written by a program of this session out of the translation. -/
import Derived.Test.YtcikahnmiiichaaR0
import Derived.Test.YtcikahnmiiichaaR6
import Derived.Test.YtcikahnmiiichaaR7
namespace Go.Proofs.Ytcikahnmiiichaa.R
open List renaming setIfInBounds_toArray → vS, set_cons_zero → vT, set_cons_succ → vU, map_toArray → vV, length_take → vW, length_drop → vX
open Go.World renaming block_lt_of_cell? → vY
open Go.RowKit Go.Proofs.YtcikahnmiiichaaW.PrintWords Go.Proofs.YtcikahnmiiichaaW.PrintLast Go.Proofs.YtcikahnmiiichaaW.PrintMore
attribute [local go_sem] max2_int min2_int max_two min_two max_three min_three max_four min_four   -- for this text's walks alone
set_option linter.unusedVariables false
set_option linter.unusedSimpArgs false

/-! ### spec_ReplayLog: function 30 -/
def spec_ReplayLog.l0 : Nat → List (S72) → Int → List Int → List (S49) → Option (List Int × (List (S49)) × Bool)
  | 0, _, _, _, _ => none
  | k + 1, x0, x5, x202000, x202001 => if x5 < (x0.length : Int) then (if 0 ≤ x5 then ((spec_ApplyOp.f k x202000 x202001 ((rd_T72 x0 x5).f1.f0) ((rd_T72 x0 x5).f1.f1) ((rd_T72 x0 x5).f1.f2) ((rd_T72 x0 x5).f1.f3) ((rd_T72 x0 x5).f1.f4) ((rd_T72 x0 x5).f1.f5)).bind fun bt204 => (spec_ReplayLog.l0 k x0 (wrap64 (x5 + 1)) bt204.1 bt204.2.1)) else (none)) else (some (x202000, x202001, true))
def spec_ReplayLog.f (k : Nat) (l0 : List (S72)) : Option (List Int × (List (S49)) × Bool) := (spec_NewMachine.f).bind fun bt195 => ((spec_IsLog.f k l0).bind fun t202 => (if t202 = true then (spec_ReplayLog.l0 k l0 0 bt195.1 bt195.2) else (some (([] : List Int), ([] : List (S49)), false))))
theorem spec_ReplayLog.mono_l : ∀ k, (∀ y0 y1 y2 y3, uV (spec_ReplayLog.l0 k y0 y1 y2 y3) (spec_ReplayLog.l0 (k + 1) y0 y1 y2 y3))
  | 0 => fun _ _ _ _ r h => by simp [spec_ReplayLog.l0] at h
  | k + 1 => by
    have ih0 := spec_ReplayLog.mono_l k
    intro y0 y1 y2 y3
    unfold spec_ReplayLog.l0
    repeat' first
    | (with_reducible exact ih0 _ _ _ _)
    | (with_reducible exact spec_ApplyOp.mono _ _ _ _ _ _ _ _ _)
    | (with_reducible exact spec_IsLog.mono _ _)
    | (with_reducible exact uV.refl _)
    | (with_reducible exact uV.none _)
    | (with_reducible refine uV.ite ?_ ?_)
    | (with_reducible refine uV.bind ?_ (fun _ => ?_))
    | exact ih0 _ _ _ _
    | exact spec_ApplyOp.mono _ _ _ _ _ _ _ _ _
    | exact spec_IsLog.mono _ _
    | exact uV.none _
    | refine uV.ite ?_ ?_
    | refine uV.bind ?_ (fun _ => ?_)
theorem spec_ReplayLog.mono : ∀ a0 k, uV (spec_ReplayLog.f k a0) (spec_ReplayLog.f (k + 1) a0) := by
  intro a0 k
  have ih0 := spec_ReplayLog.mono_l k
  unfold spec_ReplayLog.f
  repeat' first
      | (with_reducible exact ih0 _ _ _ _)
      | (with_reducible exact spec_ApplyOp.mono _ _ _ _ _ _ _ _ _)
      | (with_reducible exact spec_IsLog.mono _ _)
      | (with_reducible exact uV.refl _)
      | (with_reducible exact uV.none _)
      | (with_reducible refine uV.ite ?_ ?_)
      | (with_reducible refine uV.bind ?_ (fun _ => ?_))
      | exact ih0 _ _ _ _
      | exact spec_ApplyOp.mono _ _ _ _ _ _ _ _ _
      | exact spec_IsLog.mono _ _
      | exact uV.none _
      | refine uV.ite ?_ ?_
      | refine uV.bind ?_ (fun _ => ?_)
def spec_ReplayLog.T7 : Bool × List (List Nat × List Nat) := (true, [([], []), ([], []), ([], []), ([1, 2], [1, 2]), ([3], [3]), ([4], [4]), ([0, 5], [0, 5]), ([6], [6]), ([7], [7]), ([7], [7]), ([7], [7]), ([8, 6, 0, 1, 2, 3, 4, 5, 6, 7, 8], [8])])
def spec_ReplayLog.B7 : List Nat := [0, 0, 0, 6, 14, 30, 63, 127, 255, 255, 255, 511]
theorem spec_ReplayLog.tab7 : rtab .any (opsOf Try.f30 7) = spec_ReplayLog.T7 := by kernel_rfl
theorem spec_ReplayLog.bits7 : waitsOk spec_ReplayLog.T7.2 spec_ReplayLog.B7 = true := by kernel_rfl
set_option maxHeartbeats 8000000 in
set_option maxRecDepth 100000 in
theorem spec_ReplayLog.calls (k : Nat) (A0 : Option Addr) (c0 : Nat) (l0 : List (S72)) (r1 : List Int) (r2 : List (S49)) (r3 : Bool) (w : World) (hr0 : Kd.C k72 w A0 l0.length l0) (hc0 : l0.length ≤ c0) (h : spec_ReplayLog.f k l0 = some (r1, r2, r3)) :
    Calls Try.prog 30 #[.slice A0 l0.length c0] w fun e w' => ∃ v0_ v1_ : Value, e = .returned (.tuple #[.agg #[v0_, v1_], .bool r3]) ∧ Kd.R (Kd.int .i64) 3 w' w.heap.size (fun _ => True) v0_ r1 ∧ Kd.R k49 49 w' w.heap.size (fun _ => True) v1_ r2 ∧ Below w.heap.size w w' := by
  have hu31 := Try.underlying31
  have hu37 := Try.underlying37
  have HR0 := Aside0.mk hr0
  have HC0 := Aside0.mk hc0
  clear hr0 hc0
  have HB := Aside0.mk (Below.refl w.heap.size w)
  have H : ((spec_NewMachine.f).bind fun bt195 => ((spec_IsLog.f k l0).bind fun t202 => (if t202 = true then (spec_ReplayLog.l0 k l0 0 bt195.1 bt195.2) else (some (([] : List Int), ([] : List (S49)), false))))) = some (r1, r2, r3) := h
  clear h
  replace H := Option.bind_eq_some_iff.mp H
  obtain ⟨⟨t195, t198⟩, A20, H⟩ := H
  replace H : ((spec_IsLog.f k l0).bind fun t202 => (if t202 = true then (spec_ReplayLog.l0 k l0 0 t195 t198) else (some (([] : List Int), ([] : List (S49)), false)))) = some (r1, r2, r3) := H
  have A2 := Aside0.mk A20
  clear A20
  replace H := Option.bind_eq_some_iff.mp H
  obtain ⟨t202, A30, H⟩ := H
  replace H : (if t202 = true then (spec_ReplayLog.l0 k l0 0 t195 t198) else (some (([] : List Int), ([] : List (S49)), false))) = some (r1, r2, r3) := H
  have A3 := Aside0.mk A30
  clear A30
  by_cases c4 : t202 = true
  rotate_left
  · replace c4 := Bool.eq_false_iff.mpr c4
    subst c4
    have H1 : (some (([] : List Int), ([] : List (S49)), false)) = some (r1, r2, r3) := by first | (rw [if_neg (show ¬ (false = true) by decide)] at H; exact H) | rfl
    clear H
    have H := H1
    clear H1
    simp only [Option.some.injEq, Prod.mk.injEq] at H
    obtain ⟨rfl, rfl, rfl⟩ := H
    go_enter Try.func30, Try.ntmps30
    go_wp2_with (first | ((with_reducible refine uS (N := 2) rfl ?_); refine uR ?hg (N := 2) ?hd (cs := #[.slice none 0 0, .slice none 0 0]) (t := 31) ?hr ?_; (case hd => rfl); (case hg => rfl); (case hr => first | (go_simp; done) | (go_simp; rfl)); intro gb194 hg w29 hbox hb; have n0_ := Aside0.mk (uP (by repeat (first | (with_reducible first | exact HB.out | apply uC | apply uA | apply uB) | exact HB.out)) hb); have n1_ := Aside0.mk (hbox); have n2_ := Aside0.mk ((by rw [hg]; exact (uK (by repeat (first | (with_reducible first | exact HB.out | apply uC | apply uA | apply uB) | exact HB.out))) : w.heap.size ≤ gb194)); have n3_ := Aside0.mk ((by rw [hg]; exact (uK (by repeat (first | (with_reducible first | exact HB.out | apply uC | apply uA | apply uB) | exact HB.out))) : w.heap.size ≤ gb194)); clear HB; have HB := n0_; have BK194 := n1_; have GW194 := n2_; have GE194 := n3_; clear n0_ n1_ n2_ n3_; clear hb hbox hg) | ((with_reducible refine uU (f := 70) rfl ?_); refine vE (some 6) rfl rfl Try.func70 (by kernel_rfl) rfl #[] rfl (by (try simp only [vV, List.map_cons, List.map_nil]); first | done | rfl | (simp only [vX, vW]; rfl)) ?_; (with_reducible refine (spec_NewMachine.calls  t195 t198 _ A2.out).mono ?_); rintro e w30 ⟨v196, v199, rfl, ho0, ho1, hb⟩; refine ⟨_, rfl, ?_⟩; have n0_ := Aside0.mk (Kd.vR ho0 (uK (by repeat (first | (with_reducible first | exact HB.out | apply uC | apply uA | apply uB | refine uF ?_ GE194.out) | exact HB.out)))); have n1_ := Aside0.mk (Kd.vR ho1 (uK (by repeat (first | (with_reducible first | exact HB.out | apply uC | apply uA | apply uB | refine uF ?_ GE194.out) | exact HB.out)))); have n2_ := Aside0.mk (uT (g := gb194) (o := .cells #[.slice none 0 0, .slice none 0 0] 31 (0, 0)) (by (with_reducible repeat (first | refine uG ?_ _ | refine uI ?_ | refine uH ?_ _)); exact BK194.out) hb); have n3_ := Aside0.mk (uP (by repeat (first | (with_reducible first | exact HB.out | apply uC | apply uA | apply uB | refine uF ?_ GE194.out) | exact HB.out)) hb); clear BK194; clear HB; have HO197 := n0_; have HO200 := n1_; have BK194 := n2_; have HB := n3_; clear n0_ n1_ n2_ n3_; (try clear hb); (try clear hb2); (try clear hk); (try clear hi); (try clear ho0); (try clear ho1)) | ((with_reducible refine uS (N := 4) rfl ?_); refine uR ?hg (N := 4) ?hd (cs := #[.slice none 0 0, .slice none 0 0]) (t := 31) ?hr ?_; (case hd => rfl); (case hg => rfl); (case hr => first | (go_simp; done) | (go_simp; rfl)); intro gb201 hg w31 hbox hb; have n0_ := Aside0.mk (Kd.uZ (by (with_reducible repeat (first | apply Kd.uO | apply Kd.uN | apply Kd.uQ)); exact HO197.out) hb); have n1_ := Aside0.mk (Kd.uZ (by (with_reducible repeat (first | apply Kd.uO | apply Kd.uN | apply Kd.uQ)); exact HO200.out) hb); have n2_ := Aside0.mk (uT (g := gb194) (o := .cells #[.slice none 0 0, .slice none 0 0] 31 (0, 0)) (by (with_reducible repeat (first | refine uG ?_ _ | refine uI ?_ | refine uH ?_ _)); exact BK194.out) hb); have n3_ := Aside0.mk (uP (by repeat (first | (with_reducible first | exact HB.out | apply uC | apply uA | apply uB | refine uF ?_ GE194.out) | exact HB.out)) hb); have n4_ := Aside0.mk (hbox); have n5_ := Aside0.mk ((by rw [hg]; exact (uK (by repeat (first | (with_reducible first | exact HB.out | apply uC | apply uA | apply uB | refine uF ?_ GE194.out) | exact HB.out))) : w.heap.size ≤ gb201)); have n6_ := Aside0.mk ((by rw [hg]; exact (uK (by repeat (first | (with_reducible first | exact HB.out | apply uC | apply uA | apply uB | refine uF ?_ GE194.out) | exact HB.out))) : w.heap.size ≤ gb201)); have n7_ := Aside0.mk ((by rw [hg]; exact Nat.ne_of_lt (vG (g := gb194) (o := .cells #[.slice none 0 0, .slice none 0 0] 31 (0, 0)) (by (with_reducible repeat (first | refine uG ?_ _ | refine uI ?_ | refine uH ?_ _)); exact BK194.out)) : gb194 ≠ gb201)); have n8_ := Aside0.mk ((by rw [hg]; exact Nat.ne_of_gt (vG (g := gb194) (o := .cells #[.slice none 0 0, .slice none 0 0] 31 (0, 0)) (by (with_reducible repeat (first | refine uG ?_ _ | refine uI ?_ | refine uH ?_ _)); exact BK194.out)) : gb201 ≠ gb194)); clear HO197; clear HO200; clear BK194; clear HB; have HO197 := n0_; have HO200 := n1_; have BK194 := n2_; have HB := n3_; have BK201 := n4_; have GW201 := n5_; have GE201 := n6_; have NB194_201 := n7_; have NB201_194 := n8_; clear n0_ n1_ n2_ n3_ n4_ n5_ n6_ n7_ n8_; clear hb hbox hg; obtain ⟨Ao32, co32, eo32⟩ := Kd.vK HO197.out; subst eo32; have hnb33 := NB201_194.out; have hnc33 := NB194_201.out; have hcz34_0 : w31.cell? ⟨gb201, 0, none⟩ = some (.slice none 0 0) := (uE BK201.out 0).trans rfl; have hcz34_1 : w31.cell? ⟨gb201, 1, none⟩ = some (.slice none 0 0) := (uE BK201.out 1).trans rfl; have hfz34_0 := uD BK201.out 0; have hfz34_1 := uD BK201.out 1; obtain ⟨Ao35, co35, eo35⟩ := Kd.vK HO200.out; subst eo35) | ((with_reducible refine uU (f := 67) rfl ?_); refine vE (some 8) rfl rfl Try.func67 (by kernel_rfl) rfl #[.slice A0 l0.length c0] rfl (by (try simp only [vV, List.map_cons, List.map_nil]); first | done | rfl | (simp only [vX, vW]; rfl)) ?_; (with_reducible refine (spec_IsLog.calls k _ _ l0 false _ ?side1 ?side2 A3.out).mono ?_); (case side1 => exact Kd.vC HR0.out (by repeat (first | (with_reducible first | exact HB.out | apply uC | apply uA | apply uB | refine uF ?_ GE194.out | refine uF ?_ GE201.out) | exact HB.out))); (case side2 => exact HC0.out); rintro e w36 ⟨rfl, hb⟩; refine ⟨_, rfl, ?_⟩; have n0_ := Aside0.mk (Kd.uZ (by (with_reducible repeat (first | apply Kd.uO | apply Kd.uN | apply Kd.uQ)); exact (Kd.uY (Kd.uX (p := ⟨gb201, 1, none⟩) (Kd.uX (p := ⟨gb201, 0, none⟩) (Kd.vH HO197.out BK201.out (by decide)) (fun _ hk => hk.2) (.slice Ao32 t195.length co32)) (fun _ hk => hk.2) (.slice Ao35 t198.length co35)) (fun _ h_ => h_.1))) hb); have n1_ := Aside0.mk (Kd.uZ (by (with_reducible repeat (first | apply Kd.uO | apply Kd.uN | apply Kd.uQ)); exact (Kd.uY (Kd.uX (p := ⟨gb201, 1, none⟩) (Kd.uX (p := ⟨gb201, 0, none⟩) (Kd.vH HO200.out BK201.out (by decide)) (fun _ hk => hk.2) (.slice Ao32 t195.length co32)) (fun _ hk => hk.2) (.slice Ao35 t198.length co35)) (fun _ h_ => h_.1))) hb); have n2_ := Aside0.mk (uT (g := gb194) (o := .cells #[.slice none 0 0, .slice none 0 0] 31 (0, 0)) (by (with_reducible repeat (first | refine uG ?_ _ | refine uI ?_ | refine uH ?_ _)); refine vI ?_ NB194_201.out _; (with_reducible repeat (first | refine uG ?_ _ | refine uI ?_ | refine uH ?_ _)); refine vI ?_ NB194_201.out _; (with_reducible repeat (first | refine uG ?_ _ | refine uI ?_ | refine uH ?_ _)); exact BK194.out) hb); have n3_ := Aside0.mk (uT (g := gb201) (o := .cells #[.slice Ao32 t195.length co32, .slice Ao35 t198.length co35] 31 (0, 0)) (by (with_reducible repeat (first | refine uG ?_ _ | refine uI ?_ | refine uH ?_ _)); refine vB (cs := #[.slice Ao32 t195.length co32, .slice none 0 0]) ?_ 1 _ rfl; (with_reducible repeat (first | refine uG ?_ _ | refine uI ?_ | refine uH ?_ _)); refine vB (cs := #[.slice none 0 0, .slice none 0 0]) ?_ 0 _ rfl; (with_reducible repeat (first | refine uG ?_ _ | refine uI ?_ | refine uH ?_ _)); exact BK201.out) hb); have n4_ := Aside0.mk (uP (by repeat (first | (with_reducible first | exact HB.out | apply uC | apply uA | apply uB | refine uF ?_ GE194.out | refine uF ?_ GE201.out) | exact HB.out)) hb); clear HO197; clear HO200; clear BK194; clear BK201; clear HB; have HO197 := n0_; have HO200 := n1_; have BK194 := n2_; have BK201 := n3_; have HB := n4_; clear n0_ n1_ n2_ n3_ n4_; (try clear hb); (try clear hb2); (try clear hk); (try clear hi); have hcz37_0 : w36.cell? ⟨gb194, 0, none⟩ = some (.slice none 0 0) := (uE BK194.out 0).trans rfl; have hcz37_1 : w36.cell? ⟨gb194, 1, none⟩ = some (.slice none 0 0) := (uE BK194.out 1).trans rfl; have hfz37_0 := uD BK194.out 0; have hfz37_1 := uD BK194.out 1))
    refine bodyPost_ret (results_ct rfl _ _ gb194 31 #[.slice none 0 0, .slice none 0 0] (0, 0) _ rfl (by (with_reducible repeat (first | refine uG ?_ _ | refine uI ?_ | refine uH ?_ _)); refine vB (cs := #[.slice none 0 0, .slice none 0 0]) ?_ 1 _ rfl; (with_reducible repeat (first | refine uG ?_ _ | refine uI ?_ | refine uH ?_ _)); refine vB (cs := #[.slice none 0 0, .slice none 0 0]) ?_ 0 _ rfl; (with_reducible repeat (first | refine uG ?_ _ | refine uI ?_ | refine uH ?_ _)); exact BK194.out) Try.underlying31 rfl (by kernel_rfl)) rfl ?_
    exact ⟨_, _, by first | rfl | (simp [errW_none, errW_some] <;> rfl) | (simp [*, errW_none, errW_some] <;> rfl), by first | exact Kd.R_nil _ _ _ _ _ | exact Kd.N_nil _ _ _ _ _ | exact Kd.V_nil _ _ _ _ _ | exact Kd.Q_nil _ _ _ _ _ | exact Kd.S_nil _ _ _ _ _, by first | exact Kd.R_nil _ _ _ _ _ | exact Kd.N_nil _ _ _ _ _ | exact Kd.V_nil _ _ _ _ _ | exact Kd.Q_nil _ _ _ _ _ | exact Kd.S_nil _ _ _ _ _, by repeat (first | (with_reducible first | exact HB.out | apply uC | apply uA | apply uB | refine uF ?_ GE194.out | refine uF ?_ GE201.out) | exact HB.out)⟩
  subst c4
  have H1 : (spec_ReplayLog.l0 k l0 0 t195 t198) = some (r1, r2, r3) := by first | (rw [if_pos rfl] at H; exact H) | rfl
  clear H
  have H := H1
  clear H1
  have H' := Aside0.mk H
  clear H
  go_enter Try.func30, Try.ntmps30
  go_wp2_with (first | ((with_reducible refine uS (N := 2) rfl ?_); refine uR ?hg (N := 2) ?hd (cs := #[.slice none 0 0, .slice none 0 0]) (t := 31) ?hr ?_; (case hd => rfl); (case hg => rfl); (case hr => first | (go_simp; done) | (go_simp; rfl)); intro gb194 hg w5 hbox hb; have n0_ := Aside0.mk (uP (by repeat (first | (with_reducible first | exact HB.out | apply uC | apply uA | apply uB) | exact HB.out)) hb); have n1_ := Aside0.mk (hbox); have n2_ := Aside0.mk ((by rw [hg]; exact (uK (by repeat (first | (with_reducible first | exact HB.out | apply uC | apply uA | apply uB) | exact HB.out))) : w.heap.size ≤ gb194)); have n3_ := Aside0.mk ((by rw [hg]; exact (uK (by repeat (first | (with_reducible first | exact HB.out | apply uC | apply uA | apply uB) | exact HB.out))) : w.heap.size ≤ gb194)); clear HB; have HB := n0_; have BK194 := n1_; have GW194 := n2_; have GE194 := n3_; clear n0_ n1_ n2_ n3_; clear hb hbox hg) | ((with_reducible refine uU (f := 70) rfl ?_); refine vE (some 6) rfl rfl Try.func70 (by kernel_rfl) rfl #[] rfl (by (try simp only [vV, List.map_cons, List.map_nil]); first | done | rfl | (simp only [vX, vW]; rfl)) ?_; (with_reducible refine (spec_NewMachine.calls  t195 t198 _ A2.out).mono ?_); rintro e w6 ⟨v196, v199, rfl, ho0, ho1, hb⟩; refine ⟨_, rfl, ?_⟩; have n0_ := Aside0.mk (Kd.vR ho0 (uK (by repeat (first | (with_reducible first | exact HB.out | apply uC | apply uA | apply uB | refine uF ?_ GE194.out) | exact HB.out)))); have n1_ := Aside0.mk (Kd.vR ho1 (uK (by repeat (first | (with_reducible first | exact HB.out | apply uC | apply uA | apply uB | refine uF ?_ GE194.out) | exact HB.out)))); have n2_ := Aside0.mk (uT (g := gb194) (o := .cells #[.slice none 0 0, .slice none 0 0] 31 (0, 0)) (by (with_reducible repeat (first | refine uG ?_ _ | refine uI ?_ | refine uH ?_ _)); exact BK194.out) hb); have n3_ := Aside0.mk (uP (by repeat (first | (with_reducible first | exact HB.out | apply uC | apply uA | apply uB | refine uF ?_ GE194.out) | exact HB.out)) hb); clear BK194; clear HB; have HO197 := n0_; have HO200 := n1_; have BK194 := n2_; have HB := n3_; clear n0_ n1_ n2_ n3_; (try clear hb); (try clear hb2); (try clear hk); (try clear hi); (try clear ho0); (try clear ho1)) | ((with_reducible refine uS (N := 4) rfl ?_); refine uR ?hg (N := 4) ?hd (cs := #[.slice none 0 0, .slice none 0 0]) (t := 31) ?hr ?_; (case hd => rfl); (case hg => rfl); (case hr => first | (go_simp; done) | (go_simp; rfl)); intro gb201 hg w7 hbox hb; have n0_ := Aside0.mk (Kd.uZ (by (with_reducible repeat (first | apply Kd.uO | apply Kd.uN | apply Kd.uQ)); exact HO197.out) hb); have n1_ := Aside0.mk (Kd.uZ (by (with_reducible repeat (first | apply Kd.uO | apply Kd.uN | apply Kd.uQ)); exact HO200.out) hb); have n2_ := Aside0.mk (uT (g := gb194) (o := .cells #[.slice none 0 0, .slice none 0 0] 31 (0, 0)) (by (with_reducible repeat (first | refine uG ?_ _ | refine uI ?_ | refine uH ?_ _)); exact BK194.out) hb); have n3_ := Aside0.mk (uP (by repeat (first | (with_reducible first | exact HB.out | apply uC | apply uA | apply uB | refine uF ?_ GE194.out) | exact HB.out)) hb); have n4_ := Aside0.mk (hbox); have n5_ := Aside0.mk ((by rw [hg]; exact (uK (by repeat (first | (with_reducible first | exact HB.out | apply uC | apply uA | apply uB | refine uF ?_ GE194.out) | exact HB.out))) : w.heap.size ≤ gb201)); have n6_ := Aside0.mk ((by rw [hg]; exact (uK (by repeat (first | (with_reducible first | exact HB.out | apply uC | apply uA | apply uB | refine uF ?_ GE194.out) | exact HB.out))) : w.heap.size ≤ gb201)); have n7_ := Aside0.mk ((by rw [hg]; exact Nat.ne_of_lt (vG (g := gb194) (o := .cells #[.slice none 0 0, .slice none 0 0] 31 (0, 0)) (by (with_reducible repeat (first | refine uG ?_ _ | refine uI ?_ | refine uH ?_ _)); exact BK194.out)) : gb194 ≠ gb201)); have n8_ := Aside0.mk ((by rw [hg]; exact Nat.ne_of_gt (vG (g := gb194) (o := .cells #[.slice none 0 0, .slice none 0 0] 31 (0, 0)) (by (with_reducible repeat (first | refine uG ?_ _ | refine uI ?_ | refine uH ?_ _)); exact BK194.out)) : gb201 ≠ gb194)); clear HO197; clear HO200; clear BK194; clear HB; have HO197 := n0_; have HO200 := n1_; have BK194 := n2_; have HB := n3_; have BK201 := n4_; have GW201 := n5_; have GE201 := n6_; have NB194_201 := n7_; have NB201_194 := n8_; clear n0_ n1_ n2_ n3_ n4_ n5_ n6_ n7_ n8_; clear hb hbox hg; obtain ⟨Ao8, co8, eo8⟩ := Kd.vK HO197.out; subst eo8; have hnb9 := NB201_194.out; have hnc9 := NB194_201.out; have hcz10_0 : w7.cell? ⟨gb201, 0, none⟩ = some (.slice none 0 0) := (uE BK201.out 0).trans rfl; have hcz10_1 : w7.cell? ⟨gb201, 1, none⟩ = some (.slice none 0 0) := (uE BK201.out 1).trans rfl; have hfz10_0 := uD BK201.out 0; have hfz10_1 := uD BK201.out 1; obtain ⟨Ao11, co11, eo11⟩ := Kd.vK HO200.out; subst eo11) | ((with_reducible refine uU (f := 67) rfl ?_); refine vE (some 8) rfl rfl Try.func67 (by kernel_rfl) rfl #[.slice A0 l0.length c0] rfl (by (try simp only [vV, List.map_cons, List.map_nil]); first | done | rfl | (simp only [vX, vW]; rfl)) ?_; (with_reducible refine (spec_IsLog.calls k _ _ l0 true _ ?side1 ?side2 A3.out).mono ?_); (case side1 => exact Kd.vC HR0.out (by repeat (first | (with_reducible first | exact HB.out | apply uC | apply uA | apply uB | refine uF ?_ GE194.out | refine uF ?_ GE201.out) | exact HB.out))); (case side2 => exact HC0.out); rintro e w12 ⟨rfl, hb⟩; refine ⟨_, rfl, ?_⟩; have n0_ := Aside0.mk (Kd.uZ (by (with_reducible repeat (first | apply Kd.uO | apply Kd.uN | apply Kd.uQ)); exact (Kd.uY (Kd.uX (p := ⟨gb201, 1, none⟩) (Kd.uX (p := ⟨gb201, 0, none⟩) (Kd.vH HO197.out BK201.out (by decide)) (fun _ hk => hk.2) (.slice Ao8 t195.length co8)) (fun _ hk => hk.2) (.slice Ao11 t198.length co11)) (fun _ h_ => h_.1))) hb); have n1_ := Aside0.mk (Kd.uZ (by (with_reducible repeat (first | apply Kd.uO | apply Kd.uN | apply Kd.uQ)); exact (Kd.uY (Kd.uX (p := ⟨gb201, 1, none⟩) (Kd.uX (p := ⟨gb201, 0, none⟩) (Kd.vH HO200.out BK201.out (by decide)) (fun _ hk => hk.2) (.slice Ao8 t195.length co8)) (fun _ hk => hk.2) (.slice Ao11 t198.length co11)) (fun _ h_ => h_.1))) hb); have n2_ := Aside0.mk (uT (g := gb194) (o := .cells #[.slice none 0 0, .slice none 0 0] 31 (0, 0)) (by (with_reducible repeat (first | refine uG ?_ _ | refine uI ?_ | refine uH ?_ _)); refine vI ?_ NB194_201.out _; (with_reducible repeat (first | refine uG ?_ _ | refine uI ?_ | refine uH ?_ _)); refine vI ?_ NB194_201.out _; (with_reducible repeat (first | refine uG ?_ _ | refine uI ?_ | refine uH ?_ _)); exact BK194.out) hb); have n3_ := Aside0.mk (uT (g := gb201) (o := .cells #[.slice Ao8 t195.length co8, .slice Ao11 t198.length co11] 31 (0, 0)) (by (with_reducible repeat (first | refine uG ?_ _ | refine uI ?_ | refine uH ?_ _)); refine vB (cs := #[.slice Ao8 t195.length co8, .slice none 0 0]) ?_ 1 _ rfl; (with_reducible repeat (first | refine uG ?_ _ | refine uI ?_ | refine uH ?_ _)); refine vB (cs := #[.slice none 0 0, .slice none 0 0]) ?_ 0 _ rfl; (with_reducible repeat (first | refine uG ?_ _ | refine uI ?_ | refine uH ?_ _)); exact BK201.out) hb); have n4_ := Aside0.mk (uP (by repeat (first | (with_reducible first | exact HB.out | apply uC | apply uA | apply uB | refine uF ?_ GE194.out | refine uF ?_ GE201.out) | exact HB.out)) hb); clear HO197; clear HO200; clear BK194; clear BK201; clear HB; have HO197 := n0_; have HO200 := n1_; have BK194 := n2_; have BK201 := n3_; have HB := n4_; clear n0_ n1_ n2_ n3_ n4_; (try clear hb); (try clear hb2); (try clear hk); (try clear hi)))
  go_loopg [5] k (fun kq v5 w' => ∃ (x5_1 : Int) (x202000_1 : List Int) (x202001_1 : List (S49)) (u202000 : Value) (u202001 : Value), v5 = .int .i64 x5_1 ∧ Aside0 (spec_ReplayLog.l0 kq l0 x5_1 x202000_1 x202001_1 = some (r1, r2, r3)) ∧ Aside0 (kq ≤ k) ∧ Aside0 (Kd.R (Kd.int .i64) 3 w' w.heap.size (fun _ => True) u202000 x202000_1) ∧ Aside0 (Kd.R k49 49 w' w.heap.size (fun _ => True) u202001 x202001_1) ∧ Aside0 (w'.heap[gb194]? = some (.cells #[(.slice none 0 0), (.slice none 0 0)] 31 (0, 0))) ∧ Aside0 (w'.heap[gb201]? = some (.cells #[u202000, u202001] 31 (0, 0))) ∧ Aside0 (Below w.heap.size w w'))
  case atStart => exact ⟨(0), (t195), (t198), (.slice Ao8 t195.length co8), (.slice Ao11 t198.length co11), (by first | rfl | (simp; done) | (simp [*]; done)), H', ⟨Nat.le_refl _⟩, ⟨by (with_reducible repeat (first | apply Kd.uO | apply Kd.uN | apply Kd.uQ)); exact HO197.out⟩, ⟨by (with_reducible repeat (first | apply Kd.uO | apply Kd.uN | apply Kd.uQ)); exact HO200.out⟩, ⟨by (with_reducible repeat (first | refine uG ?_ _ | refine uI ?_ | refine uH ?_ _)); exact BK194.out⟩, ⟨by (with_reducible repeat (first | refine uG ?_ _ | refine uI ?_ | refine uH ?_ _)); exact BK201.out⟩, ⟨by repeat (first | (with_reducible first | exact HB.out | apply uC | apply uA | apply uB | refine uF ?_ GE194.out | refine uF ?_ GE201.out) | exact HB.out)⟩⟩
  case round =>
    clear H'
    try clear p2
    try clear c3
    try clear c4
    try clear c6
    try clear c7
    try clear c9
    try clear hcz10_0
    try clear hcz10_1
    try clear hfz10_0
    try clear hfz10_1
    obtain ⟨x5_1, x202000_1, x202001_1, u202000, u202001, rfl, HA, HK1, HO_202000, HO_202001, BK194, BK201, HB⟩ := hrel
    cases gk with
    | zero => exact absurd HA.out (by simp [spec_ReplayLog.l0])
    | succ k1 =>
      have H := HA.out
      clear HA
      simp only [spec_ReplayLog.l0] at H
      by_cases c13 : x5_1 < (l0.length : Int)
      rotate_left
      · rw [if_neg c13] at H
        have c13b0 : decide (x5_1 < (l0.length : Int)) = false := decide_eq_false c13
        clear c13
        simp only [Option.some.injEq, Prod.mk.injEq] at H
        obtain ⟨rfl, rfl, rfl⟩ := H
        have hnb24 := NB201_194.out
        have hnc24 := NB194_201.out
        have hcz25_0 : wr.cell? ⟨gb201, 0, none⟩ = some (u202000) := (uE BK201.out 0).trans rfl
        have hcz25_1 : wr.cell? ⟨gb201, 1, none⟩ = some (u202001) := (uE BK201.out 1).trans rfl
        have hfz25_0 := uD BK201.out 0
        have hfz25_1 := uD BK201.out 1
        obtain ⟨Ao26, co26, eo26⟩ := Kd.vK HO_202000.out
        subst eo26
        have hcz27_0 : wr.cell? ⟨gb194, 0, none⟩ = some (.slice none 0 0) := (uE BK194.out 0).trans rfl
        have hcz27_1 : wr.cell? ⟨gb194, 1, none⟩ = some (.slice none 0 0) := (uE BK194.out 1).trans rfl
        have hfz27_0 := uD BK194.out 0
        have hfz27_1 := uD BK194.out 1
        obtain ⟨Ao28, co28, eo28⟩ := Kd.vK HO_202001.out
        subst eo28
        go_wp2
        refine bodyPost_ret (results_ct rfl _ _ gb194 31 #[.slice Ao26 x202000_1.length co26, .slice Ao28 x202001_1.length co28] (0, 0) _ rfl (by (with_reducible repeat (first | refine uG ?_ _ | refine uI ?_ | refine uH ?_ _)); refine vB (cs := #[.slice Ao26 x202000_1.length co26, .slice none 0 0]) ?_ 1 _ rfl; (with_reducible repeat (first | refine uG ?_ _ | refine uI ?_ | refine uH ?_ _)); refine vB (cs := #[.slice none 0 0, .slice none 0 0]) ?_ 0 _ rfl; (with_reducible repeat (first | refine uG ?_ _ | refine uI ?_ | refine uH ?_ _)); exact BK194.out) Try.underlying31 rfl (by kernel_rfl)) rfl ?_
        exact ⟨_, _, by first | rfl | (simp [errW_none, errW_some] <;> rfl) | (simp [*, errW_none, errW_some] <;> rfl), by (with_reducible repeat (first | apply Kd.uO | apply Kd.uN | apply Kd.uQ)); exact Kd.uY (Kd.uX (p := ⟨gb194, 1, none⟩) (Kd.uX (p := ⟨gb194, 0, none⟩) (Kd.vH HO_202000.out BK194.out (by decide)) (fun _ hk => hk.2) (.slice Ao26 x202000_1.length co26)) (fun _ hk => hk.2) (.slice Ao28 x202001_1.length co28)) (fun _ hk => trivial), by (with_reducible repeat (first | apply Kd.uO | apply Kd.uN | apply Kd.uQ)); exact Kd.uY (Kd.uX (p := ⟨gb194, 1, none⟩) (Kd.uX (p := ⟨gb194, 0, none⟩) (Kd.vH HO_202001.out BK194.out (by decide)) (fun _ hk => hk.2) (.slice Ao26 x202000_1.length co26)) (fun _ hk => hk.2) (.slice Ao28 x202001_1.length co28)) (fun _ hk => trivial), by repeat (first | (with_reducible first | exact HB.out | apply uC | apply uA | apply uB | refine uF ?_ GE194.out | refine uF ?_ GE201.out) | exact HB.out)⟩
      rw [if_pos c13] at H
      have c13b0 : decide (x5_1 < (l0.length : Int)) = true := decide_eq_true c13
      clear c13
      by_cases c14 : 0 ≤ x5_1
      rotate_left
      · rw [if_neg c14] at H
        exact absurd H (by simp)
      rw [if_pos c14] at H
      have c14b0 : decide (0 ≤ x5_1) = true := decide_eq_true c14
      clear c14
      replace H := Option.bind_eq_some_iff.mp H
      obtain ⟨⟨t204, t207, t210, t211, t212⟩, A150, H⟩ := H
      replace H : (spec_ReplayLog.l0 k1 l0 (wrap64 (x5_1 + 1)) t204 t207) = some (r1, r2, r3) := H
      have A15 := Aside0.mk A150
      clear A150
      have H' := Aside0.mk H
      clear H
      try go_wp2
      have n0_ := Aside0.mk (Kd.uQ HO_202000.out)
      have n1_ := Aside0.mk (Kd.uQ HO_202001.out)
      have n2_ := Aside0.mk (uI BK194.out)
      have n3_ := Aside0.mk (uI BK201.out)
      have n4_ := Aside0.mk (uB HB.out)
      clear HO_202000
      clear HO_202001
      clear BK194
      clear BK201
      clear HB
      have HO_202000 := n0_
      have HO_202001 := n1_
      have BK194 := n2_
      have BK201 := n3_
      have HB := n4_
      clear n0_ n1_ n2_ n3_ n4_
      have p203 : 0 ≤ (x5_1 : Int) := of_decide_eq_true (by first | (with_reducible assumption) | assumption)
      have q203 : x5_1 < (l0.length : Int) := of_decide_eq_true (by first | (with_reducible assumption) | assumption)
      obtain ⟨ad203, e203, hx203_0, hx203_1, hx203_2, hx203_3, hx203_4, hx203_5, hx203_6⟩ := at_T72 HR0.out x5_1 p203 q203
      have hw203_6 := hx203_6
      have hw203_5 := hx203_5
      have hw203_4 := hx203_4
      have hw203_3 := hx203_3
      have hw203_2 := hx203_2
      have hw203_1 := hx203_1
      have hw203_0 := hx203_0
      cases e203
      replace hx203_0 := (HB.out.cell (vY w _ hx203_0)).trans hx203_0
      replace hx203_1 := (HB.out.cell (vY w _ hx203_1)).trans hx203_1
      replace hx203_2 := (HB.out.cell (vY w _ hx203_2)).trans hx203_2
      replace hx203_3 := (HB.out.cell (vY w _ hx203_3)).trans hx203_3
      replace hx203_4 := (HB.out.cell (vY w _ hx203_4)).trans hx203_4
      replace hx203_5 := (HB.out.cell (vY w _ hx203_5)).trans hx203_5
      replace hx203_6 := (HB.out.cell (vY w _ hx203_6)).trans hx203_6
      replace p203 := eq_true p203
      replace q203 := eq_true q203
      obtain ⟨Ao17, co17, eo17⟩ := Kd.vK HO_202000.out
      (first | subst eo17 | (injection eo17 with f1_ f2_ f3_; have f4_ := f1_.symm; have f5_ := f3_.symm; clear f1_ f2_ f3_; subst f4_; subst f5_))
      obtain ⟨Ao18, co18, eo18⟩ := Kd.vK HO_202001.out
      (first | subst eo18 | (injection eo18 with f1_ f2_ f3_; have f4_ := f1_.symm; have f5_ := f3_.symm; clear f1_ f2_ f3_; subst f4_; subst f5_))
      refine start_ (n := 12) (S := fun w' => w'.cell? ⟨gb201, 0, none⟩ = some (.slice Ao17 x202000_1.length co17) ∧ w'.cell? ⟨gb201, 1, none⟩ = some (.slice Ao18 x202001_1.length co18) ∧ w'.cell? (ad203.add ((x5_1).toNat * 7)) = some (.int .i64 ((rd_T72 l0 x5_1).f0)) ∧ w'.cell? ⟨(ad203.add ((x5_1).toNat * 7)).block, (ad203.add ((x5_1).toNat * 7)).off + 1, none⟩ = some (.int .i64 ((rd_T72 l0 x5_1).f1.f0)) ∧ w'.cell? ⟨(ad203.add ((x5_1).toNat * 7)).block, (ad203.add ((x5_1).toNat * 7)).off + 2, none⟩ = some (.int .i64 ((rd_T72 l0 x5_1).f1.f1)) ∧ w'.cell? ⟨(ad203.add ((x5_1).toNat * 7)).block, (ad203.add ((x5_1).toNat * 7)).off + 3, none⟩ = some (.int .i64 ((rd_T72 l0 x5_1).f1.f2)) ∧ w'.cell? ⟨(ad203.add ((x5_1).toNat * 7)).block, (ad203.add ((x5_1).toNat * 7)).off + 4, none⟩ = some (.int .i64 ((rd_T72 l0 x5_1).f1.f3)) ∧ w'.cell? ⟨(ad203.add ((x5_1).toNat * 7)).block, (ad203.add ((x5_1).toNat * 7)).off + 5, none⟩ = some (.int .i64 ((rd_T72 l0 x5_1).f1.f4)) ∧ w'.cell? ⟨(ad203.add ((x5_1).toNat * 7)).block, (ad203.add ((x5_1).toNat * 7)).off + 6, none⟩ = some (.int .i64 ((rd_T72 l0 x5_1).f1.f5))) (ds := [11]) #[false, false, false, false, false, false, false, false, false, false, false, false] (by kernel_rfl) rfl rfl ⟨(uE BK201.out 0).trans rfl, (uE BK201.out 1).trans rfl, ((HB.out.cell (vY w _ hw203_0)).trans hw203_0), ((HB.out.cell (vY w _ hw203_1)).trans hw203_1), ((HB.out.cell (vY w _ hw203_2)).trans hw203_2), ((HB.out.cell (vY w _ hw203_3)).trans hw203_3), ((HB.out.cell (vY w _ hw203_4)).trans hw203_4), ((HB.out.cell (vY w _ hw203_5)).trans hw203_5), ((HB.out.cell (vY w _ hw203_6)).trans hw203_6)⟩ (fun hHeld => ?_); refine with_tabW spec_ReplayLog.tab7 spec_ReplayLog.bits7 (fun HT_ HW_ => ?_)
      generalize wr.drew = w16 at HO_202000 HO_202001 BK194 BK201 HB hx203_0 hx203_1 hx203_2 hx203_3 hx203_4 hx203_5 hx203_6 hHeld ⊢
      refine uJ (i := 1) (N := some 19) (v := ?_) (a' := ?_) #[false, true, false, false, false, false, false, false, false, false, false, false] rfl rfl (vP HT_.out (by kernel_rfl)) (fun _ _ _ h => h) (Or.inl ⟨by rfl, ?_⟩) ?_ ?_
      rotate_left
      · intro w'
        go_simp
        with_reducible rfl
      rotate_left
      · simp only [Act.put, vS, vT, vU, uL, uM]
        rfl
      refine uJ (i := 2) (N := some 20) (v := ?_) (a' := ?_) #[false, true, true, false, false, false, false, false, false, false, false, false] rfl rfl (vP HT_.out (by kernel_rfl)) (fun _ _ _ h => h) (Or.inl ⟨by rfl, ?_⟩) ?_ ?_
      rotate_left
      · intro w'
        go_simp
        with_reducible rfl
      rotate_left
      · simp only [Act.put, vS, vT, vU, uL, uM]
        rfl
      refine uJ (i := 3) (N := some 21) (v := ?_) (a' := ?_) #[false, true, true, true, false, false, false, false, false, false, false, false] rfl rfl (vP HT_.out (by kernel_rfl)) (fun _ _ _ h => h) (Or.inl ⟨by rfl, ?_⟩) ?_ ?_
      rotate_left
      · intro w'
        go_simp
        with_reducible rfl
      rotate_left
      · simp only [Act.put, vS, vT, vU, uL, uM]
        rfl
      refine uJ (i := 4) (N := some 22) (v := ?_) (a' := ?_) #[false, true, true, true, true, false, false, false, false, false, false, false] rfl rfl (vP HT_.out (by kernel_rfl)) (fun _ _ _ h => h) (Or.inl ⟨by rfl, ?_⟩) ?_ ?_
      rotate_left
      · intro w'
        go_simp
        with_reducible rfl
      rotate_left
      · simp only [Act.put, vS, vT, vU, uL, uM]
        rfl
      refine take_ (i := 0) (N := some 18) (v := ?_) (a' := ?_) #[true, true, true, true, true, false, false, false, false, false, false, false] rfl rfl (take_ofW HT_.out HW_.out (by kernel_rfl)) (fun _ _ _ h => h) (Or.inl ⟨by rfl, ?_⟩) hHeld ?_ ?_
      rotate_left
      · rintro w' ⟨s0, s1, s2, s3, s4, s5, s6, s7, s8⟩
        go_simp
        with_reducible rfl
      rotate_left
      · simp only [Act.put, vS, vT, vU, uL, uM]
        rfl
      refine take_ (i := 5) (N := some 23) (v := ?_) (a' := ?_) #[true, true, true, true, true, true, false, false, false, false, false, false] rfl rfl (take_ofW HT_.out HW_.out (by kernel_rfl)) (fun _ _ _ h => h) (Or.inl ⟨by rfl, ?_⟩) hHeld ?_ ?_
      rotate_left
      · rintro w' ⟨s0, s1, s2, s3, s4, s5, s6, s7, s8⟩
        go_simp
        with_reducible rfl
      rotate_left
      · simp only [Act.put, vS, vT, vU, uL, uM]
        rfl
      refine one_ (i := 6) (N := some 24) #[true, true, true, true, true, true, true, false, false, false, false, false] rfl rfl (one_of HT_.out (by kernel_rfl)) (by decide) (fun K hK => ?_)
      refine goes_ Try.func9 (by kernel_rfl) rfl #[.agg #[.slice Ao17 x202000_1.length co17, .slice Ao18 x202001_1.length co18], .agg #[.int .i64 ((rd_T72 l0 x5_1).f1.f0), .int .i64 ((rd_T72 l0 x5_1).f1.f1), .int .i64 ((rd_T72 l0 x5_1).f1.f2), .int .i64 ((rd_T72 l0 x5_1).f1.f3), .int .i64 ((rd_T72 l0 x5_1).f1.f4), .int .i64 ((rd_T72 l0 x5_1).f1.f5)]] (by rfl) rfl rfl (by (try simp only [vV, List.map_cons, List.map_nil]); first | done | rfl | (simp only [vX, vW]; rfl)) ?_
      with_reducible refine (spec_ApplyOp.calls k1 _ _ x202000_1 _ _ x202001_1 ((rd_T72 l0 x5_1).f1.f0) ((rd_T72 l0 x5_1).f1.f1) ((rd_T72 l0 x5_1).f1.f2) ((rd_T72 l0 x5_1).f1.f3) ((rd_T72 l0 x5_1).f1.f4) ((rd_T72 l0 x5_1).f1.f5) t204 t207 t210 t211 t212 _ ?side1 ?side2 ?side3 ?side4 A15.out).mono ?_
      (case side1 => repeat (first | exact (Kd.uW HO_202000.out).2.2 | (with_reducible refine Kd.vL ?_ _) | (with_reducible refine Kd.vM ?_ _) | (with_reducible refine Kd.vN ?_)))
      (case side2 => exact (Kd.uW HO_202000.out).2.1)
      (case side3 => repeat (first | exact (Kd.uW HO_202001.out).2.2 | (with_reducible refine Kd.vL ?_ _) | (with_reducible refine Kd.vM ?_ _) | (with_reducible refine Kd.vN ?_)))
      (case side4 => exact (Kd.uW HO_202001.out).2.1)
      rintro e w19 ⟨v205, v208, rfl, ho0, ho1, hb⟩
      refine ⟨_, rfl, ?_⟩
      have n0_ := Aside0.mk (Kd.R_elder' (by (with_reducible repeat (first | apply Kd.uO | apply Kd.uN | apply Kd.uQ)); exact HO_202000.out) (Kd.R_base ho0) hb)
      have n1_ := Aside0.mk (Kd.R_elder' (by (with_reducible repeat (first | apply Kd.uO | apply Kd.uN | apply Kd.uQ)); exact HO_202001.out) (Kd.R_base ho1) hb)
      have n2_ := Aside0.mk (Kd.vR (Kd.R_new' ho0 (Kd.R_lt (by (with_reducible repeat (first | apply Kd.uO | apply Kd.uN | apply Kd.uQ)); exact HO_202000.out))) (uK (by repeat (first | (with_reducible first | exact HB.out | apply uC | apply uA | apply uB | refine uF ?_ GE194.out | refine uF ?_ GE201.out) | exact HB.out))))
      have n3_ := Aside0.mk (Kd.vR (Kd.R_new' ho1 (Kd.R_lt (by (with_reducible repeat (first | apply Kd.uO | apply Kd.uN | apply Kd.uQ)); exact HO_202001.out))) (uK (by repeat (first | (with_reducible first | exact HB.out | apply uC | apply uA | apply uB | refine uF ?_ GE194.out | refine uF ?_ GE201.out) | exact HB.out))))
      have n4_ := Aside0.mk (uT (g := gb194) (o := .cells #[.slice none 0 0, .slice none 0 0] 31 (0, 0)) (by (with_reducible repeat (first | refine uG ?_ _ | refine uI ?_ | refine uH ?_ _)); exact BK194.out) hb)
      have n5_ := Aside0.mk (uT (g := gb201) (o := .cells #[.slice Ao17 x202000_1.length co17, .slice Ao18 x202001_1.length co18] 31 (0, 0)) (by (with_reducible repeat (first | refine uG ?_ _ | refine uI ?_ | refine uH ?_ _)); exact BK201.out) hb)
      have n6_ := Aside0.mk (uP (by repeat (first | (with_reducible first | exact HB.out | apply uC | apply uA | apply uB | refine uF ?_ GE194.out | refine uF ?_ GE201.out) | exact HB.out)) hb)
      clear HO_202000
      clear HO_202001
      clear BK194
      clear BK201
      clear HB
      have HO_202000 := n0_
      have HO_202001 := n1_
      have HO206 := n2_
      have HO209 := n3_
      have BK194 := n4_
      have BK201 := n5_
      have HB := n6_
      clear n0_ n1_ n2_ n3_ n4_ n5_ n6_
      (try clear hb)
      (try clear hb2)
      (try clear hk)
      (try clear hi)
      (try clear ho0)
      (try clear ho1)
      obtain ⟨Ao20, co20, eo20⟩ := Kd.vK HO206.out
      (first | subst eo20 | (injection eo20 with f1_ f2_ f3_; have f4_ := f1_.symm; have f5_ := f3_.symm; clear f1_ f2_ f3_; subst f4_; subst f5_))
      obtain ⟨Ao22, co22, eo22⟩ := Kd.vK HO209.out
      (first | subst eo22 | (injection eo22 with f1_ f2_ f3_; have f4_ := f1_.symm; have f5_ := f3_.symm; clear f1_ f2_ f3_; subst f4_; subst f5_))
      refine hK.out _ _ ⟨(uE BK201.out 0).trans rfl, (uE BK201.out 1).trans rfl, ((HB.out.cell (vY w _ hw203_0)).trans hw203_0), ((HB.out.cell (vY w _ hw203_1)).trans hw203_1), ((HB.out.cell (vY w _ hw203_2)).trans hw203_2), ((HB.out.cell (vY w _ hw203_3)).trans hw203_3), ((HB.out.cell (vY w _ hw203_4)).trans hw203_4), ((HB.out.cell (vY w _ hw203_5)).trans hw203_5), ((HB.out.cell (vY w _ hw203_6)).trans hw203_6)⟩ (fun hHeld => ?_)
      clear hK K
      refine vO (a' := ?_) ?_ ?_
      rotate_left
      · show Act.put _ (some 24) _ = _
        simp only [Act.put, vS, vT, vU, uL, uM]
        rfl
      refine uJ (i := 7) (N := some 17) (v := ?_) (a' := ?_) #[true, true, true, true, true, true, true, true, false, false, false, false] rfl rfl (vP HT_.out (by kernel_rfl)) (fun _ _ _ h => h) (Or.inl ⟨by rfl, ?_⟩) ?_ ?_
      rotate_left
      · intro w'
        go_simp
        with_reducible rfl
      rotate_left
      · simp only [Act.put, vS, vT, vU, uL, uM]
        rfl
      refine uJ (i := 8) (N := some 25) (v := ?_) (a' := ?_) #[true, true, true, true, true, true, true, true, true, false, false, false] rfl rfl (vP HT_.out (by kernel_rfl)) (fun _ _ _ h => h) (Or.inl ⟨by rfl, ?_⟩) ?_ ?_
      rotate_left
      · intro w'
        go_simp
        with_reducible rfl
      rotate_left
      · simp only [Act.put, vS, vT, vU, uL, uM]
        rfl
      refine uJ (i := 9) (N := some 26) (v := ?_) (a' := ?_) #[true, true, true, true, true, true, true, true, true, true, false, false] rfl rfl (vP HT_.out (by kernel_rfl)) (fun _ _ _ h => h) (Or.inl ⟨by rfl, ?_⟩) ?_ ?_
      rotate_left
      · intro w'
        go_simp
        with_reducible rfl
      rotate_left
      · simp only [Act.put, vS, vT, vU, uL, uM]
        rfl
      refine uJ (i := 10) (N := some 27) (v := ?_) (a' := ?_) #[true, true, true, true, true, true, true, true, true, true, true, false] rfl rfl (vP HT_.out (by kernel_rfl)) (fun _ _ _ h => h) (Or.inl ⟨by rfl, ?_⟩) ?_ ?_
      rotate_left
      · intro w'
        go_simp
        with_reducible rfl
      rotate_left
      · simp only [Act.put, vS, vT, vU, uL, uM]
        rfl
      refine last_ (i := 11) (N := none) #[true, true, true, true, true, true, true, true, true, true, true, true] rfl rfl (one_of HT_.out (by kernel_rfl)) (by decide) (fun K hK => ?_)
      have hs21 : w19.cell? ⟨gb201, 0, none⟩ = some (.slice Ao17 x202000_1.length co17) := (uE BK201.out 0).trans rfl
      have hfs21 := uD BK201.out 0
      have hns21_0 := NB194_201.out
      have hms21_0 := NB201_194.out
      have hs23 : w19.cell? ⟨gb201, 1, none⟩ = some (.slice Ao18 x202001_1.length co18) := (uE BK201.out 1).trans rfl
      have hfs23 := uD BK201.out 1
      have hns23_0 := NB194_201.out
      have hms23_0 := NB201_194.out
      refine skip_ (w1 := ?_) (by rfl) rfl ?_ ?_
      rotate_left
      · go_simp
        rfl
      refine hK.out _ _ ?_
      clear hK K
      refine done_ (done_of HT_.out (by kernel_rfl)) ?_
      try go_wp2
      go_roundg k1
      case measure => have := HK1.out; omega
      case rel => exact ⟨(wrap64 (x5_1 + 1)), (t204), (t207), (.slice Ao20 t204.length co20), (.slice Ao22 t207.length co22), (by first | rfl | (simp; done) | (simp [*]; done)), H', ⟨by have := HK1.out; omega⟩, ⟨by (with_reducible repeat (first | apply Kd.uO | apply Kd.uN | apply Kd.uQ)); exact Kd.uY (Kd.uX (p := ⟨gb201, 1, none⟩) (Kd.uX (p := ⟨gb201, 0, none⟩) (Kd.vH HO206.out BK201.out (by decide)) (fun _ hk => hk.2) (.slice Ao20 t204.length co20)) (fun _ hk => hk.2) (.slice Ao22 t207.length co22)) (fun _ hk => trivial)⟩, ⟨by (with_reducible repeat (first | apply Kd.uO | apply Kd.uN | apply Kd.uQ)); exact Kd.uY (Kd.uX (p := ⟨gb201, 1, none⟩) (Kd.uX (p := ⟨gb201, 0, none⟩) (Kd.vH HO209.out BK201.out (by decide)) (fun _ hk => hk.2) (.slice Ao20 t204.length co20)) (fun _ hk => hk.2) (.slice Ao22 t207.length co22)) (fun _ hk => trivial)⟩, ⟨by (with_reducible repeat (first | refine uG ?_ _ | refine uI ?_ | refine uH ?_ _)); refine vI ?_ NB194_201.out _; (with_reducible repeat (first | refine uG ?_ _ | refine uI ?_ | refine uH ?_ _)); refine vI ?_ NB194_201.out _; (with_reducible repeat (first | refine uG ?_ _ | refine uI ?_ | refine uH ?_ _)); exact BK194.out⟩, ⟨by (with_reducible repeat (first | refine uG ?_ _ | refine uI ?_ | refine uH ?_ _)); refine vB (cs := #[.slice Ao20 t204.length co20, .slice Ao18 x202001_1.length co18]) ?_ 1 _ rfl; (with_reducible repeat (first | refine uG ?_ _ | refine uI ?_ | refine uH ?_ _)); refine vB (cs := #[.slice Ao17 x202000_1.length co17, .slice Ao18 x202001_1.length co18]) ?_ 0 _ rfl; (with_reducible repeat (first | refine uG ?_ _ | refine uI ?_ | refine uH ?_ _)); exact BK201.out⟩, ⟨by repeat (first | (with_reducible first | exact HB.out | apply uC | apply uA | apply uB | refine uF ?_ GE194.out | refine uF ?_ GE201.out) | exact HB.out)⟩⟩

/-! ### slices_Clone_int_int: function 79 -/
def slices_Clone_int_int.f (l0 : List Int) : Option (List Int) := if l0.length < 17592186044416 then some l0 else none
set_option maxHeartbeats 8000000 in
set_option maxRecDepth 100000 in
theorem slices_Clone_int_int.calls (A0 : Option Addr) (c0 : Nat) (l0 : List Int) (r : List Int) (w : World) (hr0 : Kd.C (Kd.int .i64) w A0 l0.length l0) (hc0 : l0.length ≤ c0) (h : slices_Clone_int_int.f l0 = some r) :
    Calls Try.prog 79 #[.slice A0 l0.length c0] w fun e w' => ∃ v0_ : Value, e = .returned (v0_) ∧ Kd.R (Kd.int .i64) 3 w' w.heap.size (fun _ => True) v0_ r ∧ Below w.heap.size w w' := by
  have HR0 := Aside0.mk hr0
  have HC0 := Aside0.mk hc0
  have HB := Aside0.mk (Below.refl w.heap.size w)
  unfold slices_Clone_int_int.f at h
  by_cases c2 : l0.length < 17592186044416
  rotate_left
  · rw [if_neg c2] at h
    exact absurd h (by simp)
  rw [if_pos c2] at h
  obtain rfl := Option.some.inj h
  clear h
  have LMc2 := Aside0.mk c2
  have q_ : ∀ (w : World) (a : Option Addr) (n c n' c' : Nat), (binOp .eql 22 (.slice a n c) (.slice none n' c')).run Try.prog w = .ok (.bool a.isNone) w := fun w a n c n' c' => Lib.run_eql_slice_nil w _ _ a n c n' c' Try.underlying22
  cases A0 with
  | none =>
    have hl : l0 = [] := by
      rcases Nat.eq_zero_or_pos l0.length with h | h
      · exact List.length_eq_zero_iff.1 h
      obtain ⟨ad, e, _⟩ := hr0.2.2 h
      cases e
    subst hl
    clear hr0 hc0 c2 HR0 HC0 LMc2
    go_enter Try.func79, Try.ntmps79
    go_wp2
    go_ret
    exact ⟨_, rfl, Kd.R_nil _ _ _ _ _, HB.out⟩
  | some ad =>
    clear hr0 hc0 c2
    go_enter Try.func79, Try.ntmps79
    go_wp2_with (first | ((with_reducible refine uS (N := 5) rfl ?_); refine Kd.R_lit (Kd.int .i64) _ 3 ?hg (N := 5) ?hd (xs := ([] : List Int)) (inner := []) (ok := fun _ => True) (okp := fun _ => True) ?hr ?hp (fun _ hk => hk) trivial (Below.refl _ _) (Nat.le_refl _) (by simp) ?_; (case hd => rfl); (case hg => rfl); (case hr => first | (go_simp; done) | (go_simp; rfl)); (case hp => exact (Reps.none _ _)); intro v134 w3 ho4 hb hg_ hnew_; clear hg_ hnew_; have n0_ := Aside0.mk (Kd.vR ho4 (uK (by repeat (first | (with_reducible first | exact HB.out | apply uC | apply uA | apply uB) | exact HB.out)))); have n1_ := Aside0.mk (uP (by repeat (first | (with_reducible first | exact HB.out | apply uC | apply uA | apply uB) | exact HB.out)) hb); clear HB; have HO135 := n0_; have HB := n1_; clear n0_ n1_; clear hb ho4) | ((with_reducible refine gate_builtin (b := .append) (xs := #[.tmp 5, .tmp 6]) rfl ?_); at_builtin; refine Kd.R_append_rows (Kd.int .i64) (w0 := w) w.heap.size rfl (.tmp 5) (.tmp 6) 22 3 ((.int .i64 0)) 8 rfl Try.underlying22 info3 rfl (by decide) (by omega) v134 ([] : List Int) l0 _ _ _ (fun _ => True) (fun _ => False) rfl rfl ?aO ?aR (fun _ _ h => h) (fun _ h => h.elim) ?aF ?aB ?aS ?aL ?_; (case aR => repeat (first | exact (Kd.vC HR0.out HB.out) | (with_reducible refine Kd.vL ?_ _) | (with_reducible refine Kd.vM ?_ _) | (with_reducible refine Kd.vN ?_))); (case aB => exact (by repeat (first | (with_reducible first | exact HB.out | apply uC | apply uA | apply uB) | exact HB.out))); (case aF => exact (fun _ _ => trivial)); (case aO => exact (by (with_reducible repeat (first | apply Kd.uO | apply Kd.uN | apply Kd.uQ)); exact HO135.out)); (case aS => exact (uK (by repeat (first | (with_reducible first | exact HB.out | apply uC | apply uA | apply uB) | exact HB.out)))); (case aL => have := LMc2.out; simp only [List.length_nil]; omega); intro v137 w5 ho hb hg hat; rw [List.nil_append] at ho; have n0_ := Aside0.mk (hb); have n1_ := Aside0.mk (ho); clear HB; clear HO135; have HB := n0_; have HO138 := n1_; clear n0_ n1_; clear ho hb hg hat))
    go_ret
    exact ⟨_, rfl, by (with_reducible repeat (first | apply Kd.uO | apply Kd.uN | apply Kd.uQ)); exact HO138.out, by repeat (first | (with_reducible first | exact HB.out | apply uC | apply uA | apply uB) | exact HB.out)⟩

/-! ### slices_Clone_impl_Session_impl_Session: function 80 -/
def slices_Clone_impl_Session_impl_Session.f (l0 : List (S49)) : Option (List (S49)) := if l0.length < 4398046511104 then some l0 else none
set_option maxHeartbeats 8000000 in
set_option maxRecDepth 100000 in
theorem slices_Clone_impl_Session_impl_Session.calls (A0 : Option Addr) (c0 : Nat) (l0 : List (S49)) (r : List (S49)) (w : World) (hr0 : Kd.C k49 w A0 l0.length l0) (hc0 : l0.length ≤ c0) (h : slices_Clone_impl_Session_impl_Session.f l0 = some r) :
    Calls Try.prog 80 #[.slice A0 l0.length c0] w fun e w' => ∃ v0_ : Value, e = .returned (v0_) ∧ Kd.R k49 49 w' w.heap.size (fun _ => True) v0_ r ∧ Below w.heap.size w w' := by
  have HR0 := Aside0.mk hr0
  have HC0 := Aside0.mk hc0
  have HB := Aside0.mk (Below.refl w.heap.size w)
  unfold slices_Clone_impl_Session_impl_Session.f at h
  by_cases c2 : l0.length < 4398046511104
  rotate_left
  · rw [if_neg c2] at h
    exact absurd h (by simp)
  rw [if_pos c2] at h
  obtain rfl := Option.some.inj h
  clear h
  have LMc2 := Aside0.mk c2
  have q_ : ∀ (w : World) (a : Option Addr) (n c n' c' : Nat), (binOp .eql 29 (.slice a n c) (.slice none n' c')).run Try.prog w = .ok (.bool a.isNone) w := fun w a n c n' c' => Lib.run_eql_slice_nil w _ _ a n c n' c' Try.underlying29
  cases A0 with
  | none =>
    have hl : l0 = [] := by
      rcases Nat.eq_zero_or_pos l0.length with h | h
      · exact List.length_eq_zero_iff.1 h
      obtain ⟨ad, e, _⟩ := hr0.2.2 h
      cases e
    subst hl
    clear hr0 hc0 c2 HR0 HC0 LMc2
    go_enter Try.func80, Try.ntmps80
    go_wp2
    go_ret
    exact ⟨_, rfl, Kd.R_nil _ _ _ _ _, HB.out⟩
  | some ad =>
    clear hr0 hc0 c2
    go_enter Try.func80, Try.ntmps80
    go_wp2_with (first | ((with_reducible refine uS (N := 5) rfl ?_); refine Kd.R_lit k49 _ 49 ?hg (N := 5) ?hd (xs := ([] : List (S49))) (inner := []) (ok := fun _ => True) (okp := fun _ => True) ?hr ?hp (fun _ hk => hk) trivial (Below.refl _ _) (Nat.le_refl _) (by simp) ?_; (case hd => rfl); (case hg => rfl); (case hr => first | (go_simp; done) | (go_simp; rfl)); (case hp => exact (Reps.none _ _)); intro v134 w3 ho4 hb hg_ hnew_; clear hg_ hnew_; have n0_ := Aside0.mk (Kd.vR ho4 (uK (by repeat (first | (with_reducible first | exact HB.out | apply uC | apply uA | apply uB) | exact HB.out)))); have n1_ := Aside0.mk (uP (by repeat (first | (with_reducible first | exact HB.out | apply uC | apply uA | apply uB) | exact HB.out)) hb); clear HB; have HO135 := n0_; have HB := n1_; clear n0_ n1_; clear hb ho4) | ((with_reducible refine gate_builtin (b := .append) (xs := #[.tmp 5, .tmp 6]) rfl ?_); at_builtin; refine Kd.R_append_rows k49 (w0 := w) w.heap.size rfl (.tmp 5) (.tmp 6) 29 49 ((.agg #[(.int .i64 0), (.int .i64 0), (.bool false), (.int .i64 0)])) 32 rfl Try.underlying29 info49 rfl (by decide) (by omega) v134 ([] : List (S49)) l0 _ _ _ (fun _ => True) (fun _ => False) rfl rfl ?aO ?aR (fun _ _ h => h) (fun _ h => h.elim) ?aF ?aB ?aS ?aL ?_; (case aR => repeat (first | exact (Kd.vC HR0.out HB.out) | (with_reducible refine Kd.vL ?_ _) | (with_reducible refine Kd.vM ?_ _) | (with_reducible refine Kd.vN ?_))); (case aB => exact (by repeat (first | (with_reducible first | exact HB.out | apply uC | apply uA | apply uB) | exact HB.out))); (case aF => exact (fun _ _ => trivial)); (case aO => exact (by (with_reducible repeat (first | apply Kd.uO | apply Kd.uN | apply Kd.uQ)); exact HO135.out)); (case aS => exact (uK (by repeat (first | (with_reducible first | exact HB.out | apply uC | apply uA | apply uB) | exact HB.out)))); (case aL => have := LMc2.out; simp only [List.length_nil]; omega); intro v137 w5 ho hb hg hat; rw [List.nil_append] at ho; have n0_ := Aside0.mk (hb); have n1_ := Aside0.mk (ho); clear HB; clear HO135; have HB := n0_; have HO138 := n1_; clear n0_ n1_; clear ho hb hg hat))
    go_ret
    exact ⟨_, rfl, by (with_reducible repeat (first | apply Kd.uO | apply Kd.uN | apply Kd.uQ)); exact HO138.out, by repeat (first | (with_reducible first | exact HB.out | apply uC | apply uA | apply uB) | exact HB.out)⟩

/-! ### impl_machineCopy: function 49 -/
def impl_machineCopy.f (l0_0 : List Int) (l0_1 : List (S49)) : Option (List Int × (List (S49))) := (slices_Clone_int_int.f l0_0).bind fun t215 => ((slices_Clone_impl_Session_impl_Session.f l0_1).bind fun t218 => (some (t215, t218)))
def impl_machineCopy.T1 : Bool × List (List Nat × List Nat) := (true, [([], []), ([0], [0]), ([1], [1]), ([], []), ([3], [3]), ([4, 2], [4]), ([2, 5], [2, 5]), ([6, 5, 0, 1, 2, 3, 4, 5, 6], [6])])
def impl_machineCopy.B1 : List Nat := [0, 1, 3, 0, 8, 31, 63, 127]
theorem impl_machineCopy.tab1 : rtab .any (opsOf Try.f49 1) = impl_machineCopy.T1 := by kernel_rfl
theorem impl_machineCopy.bits1 : waitsOk impl_machineCopy.T1.2 impl_machineCopy.B1 = true := by kernel_rfl
set_option maxHeartbeats 8000000 in
set_option maxRecDepth 100000 in
theorem impl_machineCopy.calls (A0_0 : Option Addr) (c0_0 : Nat) (l0_0 : List Int) (A0_1 : Option Addr) (c0_1 : Nat) (l0_1 : List (S49)) (r1 : List Int) (r2 : List (S49)) (w : World) (hr0_0 : Kd.C (Kd.int .i64) w A0_0 l0_0.length l0_0) (hc0_0 : l0_0.length ≤ c0_0) (hr0_1 : Kd.C k49 w A0_1 l0_1.length l0_1) (hc0_1 : l0_1.length ≤ c0_1) (h : impl_machineCopy.f l0_0 l0_1 = some (r1, r2)) :
    Calls Try.prog 49 #[.agg #[.slice A0_0 l0_0.length c0_0, .slice A0_1 l0_1.length c0_1]] w fun e w' => ∃ v0_ v1_ : Value, e = .returned (.agg #[v0_, v1_]) ∧ Kd.R (Kd.int .i64) 3 w' w.heap.size (fun _ => True) v0_ r1 ∧ Kd.R k49 49 w' w.heap.size (fun _ => True) v1_ r2 ∧ Below w.heap.size w w' := by
  have hu31 := Try.underlying31
  have HR0_0 := Aside0.mk hr0_0
  have HC0_0 := Aside0.mk hc0_0
  clear hr0_0 hc0_0
  have HR0_1 := Aside0.mk hr0_1
  have HC0_1 := Aside0.mk hc0_1
  clear hr0_1 hc0_1
  have HB := Aside0.mk (Below.refl w.heap.size w)
  have H : ((slices_Clone_int_int.f l0_0).bind fun t215 => ((slices_Clone_impl_Session_impl_Session.f l0_1).bind fun t218 => (some (t215, t218)))) = some (r1, r2) := h
  clear h
  replace H := Option.bind_eq_some_iff.mp H
  obtain ⟨t215, A20, H⟩ := H
  replace H : ((slices_Clone_impl_Session_impl_Session.f l0_1).bind fun t218 => (some (t215, t218))) = some (r1, r2) := H
  have A2 := Aside0.mk A20
  clear A20
  replace H := Option.bind_eq_some_iff.mp H
  obtain ⟨t218, A30, H⟩ := H
  replace H : (some (t215, t218)) = some (r1, r2) := H
  have A3 := Aside0.mk A30
  clear A30
  simp only [Option.some.injEq, Prod.mk.injEq] at H
  obtain ⟨rfl, rfl⟩ := H
  go_enter Try.func49, Try.ntmps49
  try go_wp2_with (first | ((with_reducible refine uS (N := 1) rfl ?_); refine uR ?hg (N := 1) ?hd (cs := #[.slice A0_0 l0_0.length c0_0, .slice A0_1 l0_1.length c0_1]) (t := 31) ?hr ?_; (case hd => rfl); (case hg => rfl); (case hr => first | (go_simp; done) | (go_simp; rfl)); intro gb213 hg w4 hbox hb; have n0_ := Aside0.mk (uP (by repeat (first | (with_reducible first | exact HB.out | apply uC | apply uA | apply uB) | exact HB.out)) hb); have n1_ := Aside0.mk (hbox); have n2_ := Aside0.mk ((by rw [hg]; exact (uK (by repeat (first | (with_reducible first | exact HB.out | apply uC | apply uA | apply uB) | exact HB.out))) : w.heap.size ≤ gb213)); have n3_ := Aside0.mk ((by rw [hg]; exact (uK (by repeat (first | (with_reducible first | exact HB.out | apply uC | apply uA | apply uB) | exact HB.out))) : w.heap.size ≤ gb213)); clear HB; have HB := n0_; have BK213 := n1_; have GW213 := n2_; have GE213 := n3_; clear n0_ n1_ n2_ n3_; clear hb hbox hg) | ((with_reducible refine uS (N := 2) rfl ?_); refine uR ?hg (N := 2) ?hd (cs := #[.slice none 0 0, .slice none 0 0]) (t := 31) ?hr ?_; (case hd => rfl); (case hg => rfl); (case hr => first | (go_simp; done) | (go_simp; rfl)); intro gb214 hg w5 hbox hb; have n0_ := Aside0.mk (uT (g := gb213) (o := .cells #[.slice A0_0 l0_0.length c0_0, .slice A0_1 l0_1.length c0_1] 31 (0, 0)) (by (with_reducible repeat (first | refine uG ?_ _ | refine uI ?_ | refine uH ?_ _)); exact BK213.out) hb); have n1_ := Aside0.mk (uP (by repeat (first | (with_reducible first | exact HB.out | apply uC | apply uA | apply uB | refine uF ?_ GE213.out) | exact HB.out)) hb); have n2_ := Aside0.mk (hbox); have n3_ := Aside0.mk ((by rw [hg]; exact (uK (by repeat (first | (with_reducible first | exact HB.out | apply uC | apply uA | apply uB | refine uF ?_ GE213.out) | exact HB.out))) : w.heap.size ≤ gb214)); have n4_ := Aside0.mk ((by rw [hg]; exact (uK (by repeat (first | (with_reducible first | exact HB.out | apply uC | apply uA | apply uB | refine uF ?_ GE213.out) | exact HB.out))) : w.heap.size ≤ gb214)); have n5_ := Aside0.mk ((by rw [hg]; exact Nat.ne_of_lt (vG (g := gb213) (o := .cells #[.slice A0_0 l0_0.length c0_0, .slice A0_1 l0_1.length c0_1] 31 (0, 0)) (by (with_reducible repeat (first | refine uG ?_ _ | refine uI ?_ | refine uH ?_ _)); exact BK213.out)) : gb213 ≠ gb214)); have n6_ := Aside0.mk ((by rw [hg]; exact Nat.ne_of_gt (vG (g := gb213) (o := .cells #[.slice A0_0 l0_0.length c0_0, .slice A0_1 l0_1.length c0_1] 31 (0, 0)) (by (with_reducible repeat (first | refine uG ?_ _ | refine uI ?_ | refine uH ?_ _)); exact BK213.out)) : gb214 ≠ gb213)); clear BK213; clear HB; have BK213 := n0_; have HB := n1_; have BK214 := n2_; have GW214 := n3_; have GE214 := n4_; have NB213_214 := n5_; have NB214_213 := n6_; clear n0_ n1_ n2_ n3_ n4_ n5_ n6_; clear hb hbox hg))
  have n0_ := Aside0.mk (uI BK213.out)
  have n1_ := Aside0.mk (uI BK214.out)
  have n2_ := Aside0.mk (uB HB.out)
  clear BK213
  clear BK214
  clear HB
  have BK213 := n0_
  have BK214 := n1_
  have HB := n2_
  clear n0_ n1_ n2_
  refine start_ (n := 8) (S := fun w' => w'.cell? ⟨gb213, 0, none⟩ = some (.slice A0_0 l0_0.length c0_0) ∧ w'.cell? ⟨gb213, 1, none⟩ = some (.slice A0_1 l0_1.length c0_1)) (ds := []) #[false, false, false, false, false, false, false, false] (by kernel_rfl) rfl rfl ⟨(uE BK213.out 0).trans rfl, (uE BK213.out 1).trans rfl⟩ (fun hHeld => ?_); refine with_tabW impl_machineCopy.tab1 impl_machineCopy.bits1 (fun HT_ HW_ => ?_)
  generalize w5.drew = w6 at BK213 BK214 HB hHeld ⊢
  refine uJ (i := 0) (N := some 3) (v := ?_) (a' := ?_) #[true, false, false, false, false, false, false, false] rfl rfl (vP HT_.out (by kernel_rfl)) (fun _ _ _ h => h) (Or.inl ⟨by rfl, ?_⟩) ?_ ?_
  rotate_left
  · intro w'
    go_simp
    with_reducible rfl
  rotate_left
  · simp only [Act.put, vS, vT, vU, uL, uM]
    rfl
  refine uJ (i := 3) (N := some 6) (v := ?_) (a' := ?_) #[true, false, false, true, false, false, false, false] rfl rfl (vP HT_.out (by kernel_rfl)) (fun _ _ _ h => h) (Or.inl ⟨by rfl, ?_⟩) ?_ ?_
  rotate_left
  · intro w'
    go_simp
    with_reducible rfl
  rotate_left
  · simp only [Act.put, vS, vT, vU, uL, uM]
    rfl
  refine take_ (i := 1) (N := some 4) (v := ?_) (a' := ?_) #[true, true, false, true, false, false, false, false] rfl rfl (take_ofW HT_.out HW_.out (by kernel_rfl)) (fun _ _ _ h => h) (Or.inl ⟨by rfl, ?_⟩) hHeld ?_ ?_
  rotate_left
  · rintro w' ⟨s0, s1⟩
    go_simp
    with_reducible rfl
  rotate_left
  · simp only [Act.put, vS, vT, vU, uL, uM]
    rfl
  refine take_ (i := 4) (N := some 7) (v := ?_) (a' := ?_) #[true, true, false, true, true, false, false, false] rfl rfl (take_ofW HT_.out HW_.out (by kernel_rfl)) (fun _ _ _ h => h) (Or.inl ⟨by rfl, ?_⟩) hHeld ?_ ?_
  rotate_left
  · rintro w' ⟨s0, s1⟩
    go_simp
    with_reducible rfl
  rotate_left
  · simp only [Act.put, vS, vT, vU, uL, uM]
    rfl
  refine one_ (i := 2) (N := some 5) #[true, true, true, true, true, false, false, false] rfl rfl (one_of HT_.out (by kernel_rfl)) (by decide) (fun K hK => ?_)
  refine goes_ Try.func79 (by kernel_rfl) rfl #[.slice A0_0 l0_0.length c0_0] (by rfl) rfl rfl (by (try simp only [vV, List.map_cons, List.map_nil]); first | done | rfl | (simp only [vX, vW]; rfl)) ?_
  with_reducible refine (slices_Clone_int_int.calls _ _ l0_0 t215 _ ?side1 ?side2 A2.out).mono ?_
  (case side1 => repeat (first | exact (Kd.vC HR0_0.out HB.out) | (with_reducible refine Kd.vL ?_ _) | (with_reducible refine Kd.vM ?_ _) | (with_reducible refine Kd.vN ?_)))
  (case side2 => exact HC0_0.out)
  rintro e w7 ⟨v216, rfl, ho0, hb⟩
  refine ⟨_, rfl, ?_⟩
  have n0_ := Aside0.mk (Kd.vR ho0 (uK (by repeat (first | (with_reducible first | exact HB.out | apply uC | apply uA | apply uB | refine uF ?_ GE213.out | refine uF ?_ GE214.out) | exact HB.out))))
  have n1_ := Aside0.mk (uT (g := gb213) (o := .cells #[.slice A0_0 l0_0.length c0_0, .slice A0_1 l0_1.length c0_1] 31 (0, 0)) (by (with_reducible repeat (first | refine uG ?_ _ | refine uI ?_ | refine uH ?_ _)); exact BK213.out) hb)
  have n2_ := Aside0.mk (uT (g := gb214) (o := .cells #[.slice none 0 0, .slice none 0 0] 31 (0, 0)) (by (with_reducible repeat (first | refine uG ?_ _ | refine uI ?_ | refine uH ?_ _)); exact BK214.out) hb)
  have n3_ := Aside0.mk (uP (by repeat (first | (with_reducible first | exact HB.out | apply uC | apply uA | apply uB | refine uF ?_ GE213.out | refine uF ?_ GE214.out) | exact HB.out)) hb)
  clear BK213
  clear BK214
  clear HB
  have HO217 := n0_
  have BK213 := n1_
  have BK214 := n2_
  have HB := n3_
  clear n0_ n1_ n2_ n3_
  (try clear hb)
  (try clear hb2)
  (try clear hk)
  (try clear hi)
  (try clear ho0)
  refine hK.out _ _ ⟨(uE BK213.out 0).trans rfl, (uE BK213.out 1).trans rfl⟩ (fun hHeld => ?_)
  clear hK K
  refine vO (a' := ?_) ?_ ?_
  rotate_left
  · show Act.put _ (some 5) _ = _
    simp only [Act.put, vS, vT, vU, uL, uM]
    rfl
  refine one_ (i := 5) (N := some 8) #[true, true, true, true, true, true, false, false] rfl rfl (one_of HT_.out (by kernel_rfl)) (by decide) (fun K hK => ?_)
  refine goes_ Try.func80 (by kernel_rfl) rfl #[.slice A0_1 l0_1.length c0_1] (by rfl) rfl rfl (by (try simp only [vV, List.map_cons, List.map_nil]); first | done | rfl | (simp only [vX, vW]; rfl)) ?_
  with_reducible refine (slices_Clone_impl_Session_impl_Session.calls _ _ l0_1 t218 _ ?side1 ?side2 A3.out).mono ?_
  (case side1 => repeat (first | exact (Kd.vC HR0_1.out HB.out) | (with_reducible refine Kd.vL ?_ _) | (with_reducible refine Kd.vM ?_ _) | (with_reducible refine Kd.vN ?_)))
  (case side2 => exact HC0_1.out)
  rintro e w8 ⟨v219, rfl, ho0, hb⟩
  refine ⟨_, rfl, ?_⟩
  have n0_ := Aside0.mk (Kd.uZ (by (with_reducible repeat (first | apply Kd.uO | apply Kd.uN | apply Kd.uQ)); exact HO217.out) hb)
  have n1_ := Aside0.mk (Kd.vR ho0 (uK (by repeat (first | (with_reducible first | exact HB.out | apply uC | apply uA | apply uB | refine uF ?_ GE213.out | refine uF ?_ GE214.out) | exact HB.out))))
  have n2_ := Aside0.mk (uT (g := gb213) (o := .cells #[.slice A0_0 l0_0.length c0_0, .slice A0_1 l0_1.length c0_1] 31 (0, 0)) (by (with_reducible repeat (first | refine uG ?_ _ | refine uI ?_ | refine uH ?_ _)); exact BK213.out) hb)
  have n3_ := Aside0.mk (uT (g := gb214) (o := .cells #[.slice none 0 0, .slice none 0 0] 31 (0, 0)) (by (with_reducible repeat (first | refine uG ?_ _ | refine uI ?_ | refine uH ?_ _)); exact BK214.out) hb)
  have n4_ := Aside0.mk (uP (by repeat (first | (with_reducible first | exact HB.out | apply uC | apply uA | apply uB | refine uF ?_ GE213.out | refine uF ?_ GE214.out) | exact HB.out)) hb)
  clear HO217
  clear BK213
  clear BK214
  clear HB
  have HO217 := n0_
  have HO220 := n1_
  have BK213 := n2_
  have BK214 := n3_
  have HB := n4_
  clear n0_ n1_ n2_ n3_ n4_
  (try clear hb)
  (try clear hb2)
  (try clear hk)
  (try clear hi)
  (try clear ho0)
  obtain ⟨Ao9, co9, eo9⟩ := Kd.vK HO220.out
  (first | subst eo9 | (injection eo9 with f1_ f2_ f3_; have f4_ := f1_.symm; have f5_ := f3_.symm; clear f1_ f2_ f3_; subst f4_; subst f5_))
  obtain ⟨Ao10, co10, eo10⟩ := Kd.vK HO217.out
  (first | subst eo10 | (injection eo10 with f1_ f2_ f3_; have f4_ := f1_.symm; have f5_ := f3_.symm; clear f1_ f2_ f3_; subst f4_; subst f5_))
  refine hK.out _ _ ⟨(uE BK213.out 0).trans rfl, (uE BK213.out 1).trans rfl⟩ (fun hHeld => ?_)
  clear hK K
  refine vO (a' := ?_) ?_ ?_
  rotate_left
  · show Act.put _ (some 8) _ = _
    simp only [Act.put, vS, vT, vU, uL, uM]
    rfl
  refine uJ (i := 6) (N := some 9) (v := ?_) (a' := ?_) #[true, true, true, true, true, true, true, false] rfl rfl (vP HT_.out (by kernel_rfl)) (fun _ _ _ h => h) (Or.inl ⟨by rfl, ?_⟩) ?_ ?_
  rotate_left
  · intro w'
    go_simp
    with_reducible rfl
  rotate_left
  · simp only [Act.put, vS, vT, vU, uL, uM]
    rfl
  refine one_ (i := 7) (N := none) #[true, true, true, true, true, true, true, true] rfl rfl (one_of HT_.out (by kernel_rfl)) (by decide) (fun K hK => ?_)
  have hs11 : w8.cell? ⟨gb214, 0, none⟩ = some (.slice none 0 0) := (uE BK214.out 0).trans rfl
  have hfs11 := uD BK214.out 0
  have hns11_0 := NB213_214.out
  have hms11_0 := NB214_213.out
  have hs12 : w8.cell? ⟨gb214, 1, none⟩ = some (.slice none 0 0) := (uE BK214.out 1).trans rfl
  have hfs12 := uD BK214.out 1
  have hns12_0 := NB213_214.out
  have hms12_0 := NB214_213.out
  refine skip_ (w1 := ?_) (by rfl) rfl ?_ ?_
  rotate_left
  · go_simp
    rfl
  refine hK.out _ _ ⟨((cell_far (p := ⟨gb214, _, none⟩) NB213_214.out _).trans (((cell_far (p := ⟨gb214, _, none⟩) NB213_214.out _).trans (hHeld.1)))), ((cell_far (p := ⟨gb214, _, none⟩) NB213_214.out _).trans (((cell_far (p := ⟨gb214, _, none⟩) NB213_214.out _).trans (hHeld.2))))⟩ (fun hHeld => ?_)
  clear hK K
  refine done_ (done_of HT_.out (by kernel_rfl)) ?_
  try go_wp2
  refine bodyPost_ret (results_cell_row rfl _ _ gb214 31 #[.slice Ao10 t215.length co10, .slice Ao9 t218.length co9] (0, 0) _ rfl (by (with_reducible repeat (first | refine uG ?_ _ | refine uI ?_ | refine uH ?_ _)); refine vB (cs := #[.slice Ao10 t215.length co10, .slice none 0 0]) ?_ 1 _ rfl; (with_reducible repeat (first | refine uG ?_ _ | refine uI ?_ | refine uH ?_ _)); refine vB (cs := #[.slice none 0 0, .slice none 0 0]) ?_ 0 _ rfl; (with_reducible repeat (first | refine uG ?_ _ | refine uI ?_ | refine uH ?_ _)); exact BK214.out) Try.underlying31 rfl (by kernel_rfl)) rfl ?_
  exact ⟨_, _, by first | rfl | (simp [errW_none, errW_some] <;> rfl) | (simp [*, errW_none, errW_some] <;> rfl), by (with_reducible repeat (first | apply Kd.uO | apply Kd.uN | apply Kd.uQ)); exact Kd.uY (Kd.uX (p := ⟨gb214, 1, none⟩) (Kd.uX (p := ⟨gb214, 0, none⟩) (Kd.vH HO217.out BK214.out (by decide)) (fun _ hk => hk.2) (.slice Ao10 t215.length co10)) (fun _ hk => hk.2) (.slice Ao9 t218.length co9)) (fun _ hk => trivial), by (with_reducible repeat (first | apply Kd.uO | apply Kd.uN | apply Kd.uQ)); exact Kd.uY (Kd.uX (p := ⟨gb214, 1, none⟩) (Kd.uX (p := ⟨gb214, 0, none⟩) (Kd.vH HO220.out BK214.out (by decide)) (fun _ hk => hk.2) (.slice Ao10 t215.length co10)) (fun _ hk => hk.2) (.slice Ao9 t218.length co9)) (fun _ hk => trivial), by repeat (first | (with_reducible first | exact HB.out | apply uC | apply uA | apply uB | refine uF ?_ GE213.out | refine uF ?_ GE214.out) | exact HB.out)⟩

/-! ### impl_within: function 65 -/
def impl_within.f (a0 : Int) (a1 : Int) (a2 : Int) : Option (Bool) := if a1 ≤ a0 then (some (decide (a0 ≤ a2))) else (some false)
set_option maxHeartbeats 8000000 in
set_option maxRecDepth 100000 in
theorem impl_within.calls (a0 : Int) (a1 : Int) (a2 : Int) (r : Bool) (w : World) (h : impl_within.f a0 a1 a2 = some r) :
    Calls Try.prog 65 #[.int .i64 a0, .int .i64 a1, .int .i64 a2] w fun e w' => e = .returned (.bool r) ∧ Drawn0 w w' := by
  have H : (if a1 ≤ a0 then (some (decide (a0 ≤ a2))) else (some false)) = some r := h
  clear h
  by_cases c4 : a1 ≤ a0
  · rw [if_pos c4] at H
    have c4b0 : decide (a1 ≤ a0) = true := decide_eq_true c4
    clear c4
    obtain rfl := Option.some.inj H
    go_enter Try.func65, Try.ntmps65
    go_wp2
    go_ret
    exact ⟨by first | rfl | (simp; done) | (simp [*]; done), by repeat (first | exact Drawn0.refl _ | apply Drawn0.step)⟩
  rw [if_neg c4] at H
  have c4b0 : decide (a1 ≤ a0) = false := decide_eq_false c4
  clear c4
  obtain rfl := Option.some.inj H
  go_enter Try.func65, Try.ntmps65
  go_wp2
  go_ret
  exact ⟨by first | rfl | (simp; done) | (simp [*]; done), by repeat (first | exact Drawn0.refl _ | apply Drawn0.step)⟩

end Go.Proofs.Ytcikahnmiiichaa.R
