/- Go functions as Lean functions, and the proof that the code comes to them: written by a program of this session out of the translation. -/
import Derived.Test.YtcikahnmiiichaaT0
import Derived.Test.YtcikahnmiiichaaT4
import Derived.Test.YtcikahnmiiichaaT5
namespace Go.Proofs.Ytcikahnmiiichaa.T
open List renaming setIfInBounds_toArray → vU, set_cons_zero → vV, set_cons_succ → vW, map_toArray → vX, length_take → vY, length_drop → vZ
open Go.World renaming block_lt_of_cell? → yA
open Go.RowKit Go.Proofs.YtcikahnmiiichaaW.PrintWords Go.Proofs.YtcikahnmiiichaaW.PrintLast Go.Proofs.YtcikahnmiiichaaW.PrintMore
attribute [local go_sem] max2_int min2_int max_two min_two max_three min_three max_four min_four   -- for this text's walks alone
set_option linter.unusedVariables false
set_option linter.unusedSimpArgs false

/-! ### spec_ReplayLog: function 30 -/
def spec_ReplayLog.l0 : Nat → List (S72) → Int → List Int → List (S49) → Option (List Int × (List (S49)) × Bool)
  | 0, _, _, _, _ => none
  | k + 1, x0, x5, x140000, x140001 => if x5 < (x0.length : Int) then (if 0 ≤ x5 then ((spec_ApplyOp.f k x140000 x140001 ((rd_T72 x0 x5).f1.f0) ((rd_T72 x0 x5).f1.f1) ((rd_T72 x0 x5).f1.f2) ((rd_T72 x0 x5).f1.f3) ((rd_T72 x0 x5).f1.f4) ((rd_T72 x0 x5).f1.f5)).bind fun bt142 => (spec_ReplayLog.l0 k x0 (wrap64 (x5 + 1)) bt142.1 bt142.2.1)) else (none)) else (some (x140000, x140001, true))
def spec_ReplayLog.f (k : Nat) (l0 : List (S72)) : Option (List Int × (List (S49)) × Bool) := (spec_NewMachine.f).bind fun bt133 => ((spec_IsLog.f k l0).bind fun t140 => (if t140 = true then (spec_ReplayLog.l0 k l0 0 bt133.1 bt133.2) else (some (([] : List Int), ([] : List (S49)), false))))
theorem spec_ReplayLog.mono_l : ∀ k, (∀ y0 y1 y2 y3, vB (spec_ReplayLog.l0 k y0 y1 y2 y3) (spec_ReplayLog.l0 (k + 1) y0 y1 y2 y3))
  | 0 => fun _ _ _ _ r h => by simp [spec_ReplayLog.l0] at h
  | k + 1 => by
    have ih0 := spec_ReplayLog.mono_l k
    intro y0 y1 y2 y3
    unfold spec_ReplayLog.l0
    repeat' first
    | (with_reducible exact ih0 _ _ _ _)
    | (with_reducible exact spec_ApplyOp.mono _ _ _ _ _ _ _ _ _)
    | (with_reducible exact spec_IsLog.mono _ _)
    | (with_reducible exact vB.refl _)
    | (with_reducible exact vB.none _)
    | (with_reducible refine vB.ite ?_ ?_)
    | (with_reducible refine vB.bind ?_ (fun _ => ?_))
    | exact ih0 _ _ _ _
    | exact spec_ApplyOp.mono _ _ _ _ _ _ _ _ _
    | exact spec_IsLog.mono _ _
    | exact vB.none _
    | refine vB.ite ?_ ?_
    | refine vB.bind ?_ (fun _ => ?_)
theorem spec_ReplayLog.mono : ∀ a0 k, vB (spec_ReplayLog.f k a0) (spec_ReplayLog.f (k + 1) a0) := by
  intro a0 k
  have ih0 := spec_ReplayLog.mono_l k
  unfold spec_ReplayLog.f
  repeat' first
      | (with_reducible exact ih0 _ _ _ _)
      | (with_reducible exact spec_ApplyOp.mono _ _ _ _ _ _ _ _ _)
      | (with_reducible exact spec_IsLog.mono _ _)
      | (with_reducible exact vB.refl _)
      | (with_reducible exact vB.none _)
      | (with_reducible refine vB.ite ?_ ?_)
      | (with_reducible refine vB.bind ?_ (fun _ => ?_))
      | exact ih0 _ _ _ _
      | exact spec_ApplyOp.mono _ _ _ _ _ _ _ _ _
      | exact spec_IsLog.mono _ _
      | exact vB.none _
      | refine vB.ite ?_ ?_
      | refine vB.bind ?_ (fun _ => ?_)
def spec_ReplayLog.T7 : Bool × List (List Nat × List Nat) := (true, [([], []), ([], []), ([], []), ([1, 2], [1, 2]), ([3], [3]), ([4], [4]), ([0, 5], [0, 5]), ([6], [6]), ([7], [7]), ([7], [7]), ([7], [7]), ([8, 6, 0, 1, 2, 3, 4, 5, 6, 7, 8], [8])])
def spec_ReplayLog.B7 : List Nat := [0, 0, 0, 6, 14, 30, 63, 127, 255, 255, 255, 511]
theorem spec_ReplayLog.tab7 : rtab .any (opsOf Try.f30 7) = spec_ReplayLog.T7 := by kernel_rfl
theorem spec_ReplayLog.bits7 : waitsOk spec_ReplayLog.T7.2 spec_ReplayLog.B7 = true := by kernel_rfl
set_option maxHeartbeats 8000000 in
set_option maxRecDepth 100000 in
theorem spec_ReplayLog.calls (k : Nat) (A0 : Option Addr) (c0 : Nat) (l0 : List (S72)) (r1 : List Int) (r2 : List (S49)) (r3 : Bool) (w : World) (hr0 : Kd.C k72 w A0 l0.length l0) (hc0 : l0.length ≤ c0) (h : spec_ReplayLog.f k l0 = some (r1, r2, r3)) :
    Calls Try.prog 30 #[.slice A0 l0.length c0] w fun e w' => ∃ v0_ v1_ : Value, e = .returned (.tuple #[.agg #[v0_, v1_], .bool r3]) ∧ Kd.R (Kd.int .i64) 3 w' w.heap.size (fun _ => True) v0_ r1 ∧ Kd.R k49 49 w' w.heap.size (fun _ => True) v1_ r2 ∧ Below w.heap.size w w' := by
  have hu31 := Try.underlying31
  have hu37 := Try.underlying37
  have HR0 := Aside0.mk hr0
  have HC0 := Aside0.mk hc0
  clear hr0 hc0
  have HB := Aside0.mk (Below.refl w.heap.size w)
  have H : ((spec_NewMachine.f).bind fun bt133 => ((spec_IsLog.f k l0).bind fun t140 => (if t140 = true then (spec_ReplayLog.l0 k l0 0 bt133.1 bt133.2) else (some (([] : List Int), ([] : List (S49)), false))))) = some (r1, r2, r3) := h
  clear h
  replace H := Option.bind_eq_some_iff.mp H
  obtain ⟨⟨t133, t136⟩, A20, H⟩ := H
  replace H : ((spec_IsLog.f k l0).bind fun t140 => (if t140 = true then (spec_ReplayLog.l0 k l0 0 t133 t136) else (some (([] : List Int), ([] : List (S49)), false)))) = some (r1, r2, r3) := H
  have A2 := Aside0.mk A20
  clear A20
  replace H := Option.bind_eq_some_iff.mp H
  obtain ⟨t140, A30, H⟩ := H
  replace H : (if t140 = true then (spec_ReplayLog.l0 k l0 0 t133 t136) else (some (([] : List Int), ([] : List (S49)), false))) = some (r1, r2, r3) := H
  have A3 := Aside0.mk A30
  clear A30
  go_enter Try.func30, Try.ntmps30
  go_wp2_with (first | ((with_reducible refine uU (N := 2) rfl ?_); refine uT ?hg (N := 2) ?hd (cs := #[.slice none 0 0, .slice none 0 0]) (t := 31) ?hr ?_; (case hd => rfl); (case hg => rfl); (case hr => first | (go_simp; done) | (go_simp; rfl)); intro gb132 hg w29 hbox hb; have n0_ := Aside0.mk (uS (by repeat (first | (with_reducible first | exact HB.out | apply uG | apply uA | apply uF) | exact HB.out)) hb); have n1_ := Aside0.mk (hbox); have n2_ := Aside0.mk ((by rw [hg]; exact (uQ (by repeat (first | (with_reducible first | exact HB.out | apply uG | apply uA | apply uF) | exact HB.out))) : w.heap.size ≤ gb132)); have n3_ := Aside0.mk ((by rw [hg]; exact (uQ (by repeat (first | (with_reducible first | exact HB.out | apply uG | apply uA | apply uF) | exact HB.out))) : w.heap.size ≤ gb132)); clear HB; have HB := n0_; have BK132 := n1_; have GW132 := n2_; have GE132 := n3_; clear n0_ n1_ n2_ n3_; clear hb hbox hg) | ((with_reducible refine uX (f := 70) rfl ?_); refine vM (some 6) rfl rfl Try.func70 (by kernel_rfl) rfl #[] rfl (by (try simp only [vX, List.map_cons, List.map_nil]); first | done | rfl | (simp only [vZ, vY]; rfl)) ?_; (with_reducible refine (spec_NewMachine.calls  t133 t136 _ A2.out).mono ?_); rintro e w30 ⟨v134, v137, rfl, ho0, ho1, hb⟩; refine ⟨_, rfl, ?_⟩; have n0_ := Aside0.mk (Kd.vO ho0 (uQ (by repeat (first | (with_reducible first | exact HB.out | apply uG | apply uA | apply uF | refine uB ?_ GE132.out) | exact HB.out)))); have n1_ := Aside0.mk (Kd.vO ho1 (uQ (by repeat (first | (with_reducible first | exact HB.out | apply uG | apply uA | apply uF | refine uB ?_ GE132.out) | exact HB.out)))); have n2_ := Aside0.mk (uR (g := gb132) (o := .cells #[.slice none 0 0, .slice none 0 0] 31 (0, 0)) (by (with_reducible repeat (first | refine uC ?_ _ | refine uE ?_ | refine uD ?_ _)); exact BK132.out) hb); have n3_ := Aside0.mk (uS (by repeat (first | (with_reducible first | exact HB.out | apply uG | apply uA | apply uF | refine uB ?_ GE132.out) | exact HB.out)) hb); clear BK132; clear HB; have HO135 := n0_; have HO138 := n1_; have BK132 := n2_; have HB := n3_; clear n0_ n1_ n2_ n3_; (try clear hb); (try clear hb2); (try clear hk); (try clear hi); (try clear ho0); (try clear ho1)) | ((with_reducible refine uU (N := 4) rfl ?_); refine uT ?hg (N := 4) ?hd (cs := #[.slice none 0 0, .slice none 0 0]) (t := 31) ?hr ?_; (case hd => rfl); (case hg => rfl); (case hr => first | (go_simp; done) | (go_simp; rfl)); intro gb139 hg w31 hbox hb; have n0_ := Aside0.mk (Kd.vD (by (with_reducible repeat (first | apply Kd.uN | apply Kd.uO | apply Kd.uP)); exact HO135.out) hb); have n1_ := Aside0.mk (Kd.vD (by (with_reducible repeat (first | apply Kd.uN | apply Kd.uO | apply Kd.uP)); exact HO138.out) hb); have n2_ := Aside0.mk (uR (g := gb132) (o := .cells #[.slice none 0 0, .slice none 0 0] 31 (0, 0)) (by (with_reducible repeat (first | refine uC ?_ _ | refine uE ?_ | refine uD ?_ _)); exact BK132.out) hb); have n3_ := Aside0.mk (uS (by repeat (first | (with_reducible first | exact HB.out | apply uG | apply uA | apply uF | refine uB ?_ GE132.out) | exact HB.out)) hb); have n4_ := Aside0.mk (hbox); have n5_ := Aside0.mk ((by rw [hg]; exact (uQ (by repeat (first | (with_reducible first | exact HB.out | apply uG | apply uA | apply uF | refine uB ?_ GE132.out) | exact HB.out))) : w.heap.size ≤ gb139)); have n6_ := Aside0.mk ((by rw [hg]; exact (uQ (by repeat (first | (with_reducible first | exact HB.out | apply uG | apply uA | apply uF | refine uB ?_ GE132.out) | exact HB.out))) : w.heap.size ≤ gb139)); have n7_ := Aside0.mk ((by rw [hg]; exact Nat.ne_of_lt (uV (g := gb132) (o := .cells #[.slice none 0 0, .slice none 0 0] 31 (0, 0)) (by (with_reducible repeat (first | refine uC ?_ _ | refine uE ?_ | refine uD ?_ _)); exact BK132.out)) : gb132 ≠ gb139)); have n8_ := Aside0.mk ((by rw [hg]; exact Nat.ne_of_gt (uV (g := gb132) (o := .cells #[.slice none 0 0, .slice none 0 0] 31 (0, 0)) (by (with_reducible repeat (first | refine uC ?_ _ | refine uE ?_ | refine uD ?_ _)); exact BK132.out)) : gb139 ≠ gb132)); clear HO135; clear HO138; clear BK132; clear HB; have HO135 := n0_; have HO138 := n1_; have BK132 := n2_; have HB := n3_; have BK139 := n4_; have GW139 := n5_; have GE139 := n6_; have NB132_139 := n7_; have NB139_132 := n8_; clear n0_ n1_ n2_ n3_ n4_ n5_ n6_ n7_ n8_; clear hb hbox hg; obtain ⟨Ao32, co32, eo32⟩ := Kd.vN HO135.out; subst eo32; have hnb33 := NB139_132.out; have hnc33 := NB132_139.out; have hcz34_0 : w31.cell? ⟨gb139, 0, none⟩ = some (.slice none 0 0) := (uI BK139.out 0).trans rfl; have hcz34_1 : w31.cell? ⟨gb139, 1, none⟩ = some (.slice none 0 0) := (uI BK139.out 1).trans rfl; have hfz34_0 := uK BK139.out 0; have hfz34_1 := uK BK139.out 1; obtain ⟨Ao35, co35, eo35⟩ := Kd.vN HO138.out; subst eo35; refine ?roundEnd))
  case roundEnd =>
  by_cases c4 : t140 = true
  rotate_left
  · replace c4 := Bool.eq_false_iff.mpr c4
    subst c4
    have H1 : (some (([] : List Int), ([] : List (S49)), false)) = some (r1, r2, r3) := by first | (rw [if_neg (show ¬ (false = true) by decide)] at H; exact H) | rfl
    clear H
    have H := H1
    clear H1
    simp only [Option.some.injEq, Prod.mk.injEq] at H
    obtain ⟨rfl, rfl, rfl⟩ := H
    go_wp2_with (first | ((with_reducible refine uX (f := 67) rfl ?_); refine vM (some 8) rfl rfl Try.func67 (by kernel_rfl) rfl #[.slice A0 l0.length c0] rfl (by (try simp only [vX, List.map_cons, List.map_nil]); first | done | rfl | (simp only [vZ, vY]; rfl)) ?_; (with_reducible refine (spec_IsLog.calls k _ _ l0 false _ ?side1 ?side2 A3.out).mono ?_); (case side1 => exact Kd.vE HR0.out (by repeat (first | (with_reducible first | exact HB.out | apply uG | apply uA | apply uF | refine uB ?_ GE132.out | refine uB ?_ GE139.out) | exact HB.out))); (case side2 => exact HC0.out); rintro e w36 ⟨rfl, hb⟩; refine ⟨_, rfl, ?_⟩; have n0_ := Aside0.mk (Kd.vD (by (with_reducible repeat (first | apply Kd.uN | apply Kd.uO | apply Kd.uP)); exact (Kd.uZ (Kd.vG (p := ⟨gb139, 1, none⟩) (Kd.vG (p := ⟨gb139, 0, none⟩) (Kd.vR HO135.out BK139.out (by decide)) (fun _ hk => hk.2) (.slice Ao32 t133.length co32)) (fun _ hk => hk.2) (.slice Ao35 t136.length co35)) (fun _ h_ => h_.1))) hb); have n1_ := Aside0.mk (Kd.vD (by (with_reducible repeat (first | apply Kd.uN | apply Kd.uO | apply Kd.uP)); exact (Kd.uZ (Kd.vG (p := ⟨gb139, 1, none⟩) (Kd.vG (p := ⟨gb139, 0, none⟩) (Kd.vR HO138.out BK139.out (by decide)) (fun _ hk => hk.2) (.slice Ao32 t133.length co32)) (fun _ hk => hk.2) (.slice Ao35 t136.length co35)) (fun _ h_ => h_.1))) hb); have n2_ := Aside0.mk (uR (g := gb132) (o := .cells #[.slice none 0 0, .slice none 0 0] 31 (0, 0)) (by (with_reducible repeat (first | refine uC ?_ _ | refine uE ?_ | refine uD ?_ _)); refine vF ?_ NB132_139.out _; (with_reducible repeat (first | refine uC ?_ _ | refine uE ?_ | refine uD ?_ _)); refine vF ?_ NB132_139.out _; (with_reducible repeat (first | refine uC ?_ _ | refine uE ?_ | refine uD ?_ _)); exact BK132.out) hb); have n3_ := Aside0.mk (uR (g := gb139) (o := .cells #[.slice Ao32 t133.length co32, .slice Ao35 t136.length co35] 31 (0, 0)) (by (with_reducible repeat (first | refine uC ?_ _ | refine uE ?_ | refine uD ?_ _)); refine uW (cs := #[.slice Ao32 t133.length co32, .slice none 0 0]) ?_ 1 _ rfl; (with_reducible repeat (first | refine uC ?_ _ | refine uE ?_ | refine uD ?_ _)); refine uW (cs := #[.slice none 0 0, .slice none 0 0]) ?_ 0 _ rfl; (with_reducible repeat (first | refine uC ?_ _ | refine uE ?_ | refine uD ?_ _)); exact BK139.out) hb); have n4_ := Aside0.mk (uS (by repeat (first | (with_reducible first | exact HB.out | apply uG | apply uA | apply uF | refine uB ?_ GE132.out | refine uB ?_ GE139.out) | exact HB.out)) hb); clear HO135; clear HO138; clear BK132; clear BK139; clear HB; have HO135 := n0_; have HO138 := n1_; have BK132 := n2_; have BK139 := n3_; have HB := n4_; clear n0_ n1_ n2_ n3_ n4_; (try clear hb); (try clear hb2); (try clear hk); (try clear hi); have hcz37_0 : w36.cell? ⟨gb132, 0, none⟩ = some (.slice none 0 0) := (uI BK132.out 0).trans rfl; have hcz37_1 : w36.cell? ⟨gb132, 1, none⟩ = some (.slice none 0 0) := (uI BK132.out 1).trans rfl; have hfz37_0 := uK BK132.out 0; have hfz37_1 := uK BK132.out 1))
    refine bodyPost_ret (results_ct rfl _ _ gb132 31 #[.slice none 0 0, .slice none 0 0] (0, 0) _ rfl (by (with_reducible repeat (first | refine uC ?_ _ | refine uE ?_ | refine uD ?_ _)); refine uW (cs := #[.slice none 0 0, .slice none 0 0]) ?_ 1 _ rfl; (with_reducible repeat (first | refine uC ?_ _ | refine uE ?_ | refine uD ?_ _)); refine uW (cs := #[.slice none 0 0, .slice none 0 0]) ?_ 0 _ rfl; (with_reducible repeat (first | refine uC ?_ _ | refine uE ?_ | refine uD ?_ _)); exact BK132.out) Try.underlying31 rfl (by kernel_rfl)) rfl ?_
    exact ⟨_, _, by first | rfl | (simp [errW_none, errW_some] <;> rfl) | (simp [*, errW_none, errW_some] <;> rfl), by first | exact Kd.R_nil _ _ _ _ _ | exact Kd.N_nil _ _ _ _ _ | exact Kd.V_nil _ _ _ _ _ | exact Kd.Q_nil _ _ _ _ _ | exact Kd.S_nil _ _ _ _ _, by first | exact Kd.R_nil _ _ _ _ _ | exact Kd.N_nil _ _ _ _ _ | exact Kd.V_nil _ _ _ _ _ | exact Kd.Q_nil _ _ _ _ _ | exact Kd.S_nil _ _ _ _ _, by repeat (first | (with_reducible first | exact HB.out | apply uG | apply uA | apply uF | refine uB ?_ GE132.out | refine uB ?_ GE139.out) | exact HB.out)⟩
  subst c4
  have H1 : (spec_ReplayLog.l0 k l0 0 t133 t136) = some (r1, r2, r3) := by first | (rw [if_pos rfl] at H; exact H) | rfl
  clear H
  have H := H1
  clear H1
  have H' := Aside0.mk H
  clear H
  go_wp2_with (first | ((with_reducible refine uX (f := 67) rfl ?_); refine vM (some 8) rfl rfl Try.func67 (by kernel_rfl) rfl #[.slice A0 l0.length c0] rfl (by (try simp only [vX, List.map_cons, List.map_nil]); first | done | rfl | (simp only [vZ, vY]; rfl)) ?_; (with_reducible refine (spec_IsLog.calls k _ _ l0 true _ ?side1 ?side2 A3.out).mono ?_); (case side1 => exact Kd.vE HR0.out (by repeat (first | (with_reducible first | exact HB.out | apply uG | apply uA | apply uF | refine uB ?_ GE132.out | refine uB ?_ GE139.out) | exact HB.out))); (case side2 => exact HC0.out); rintro e w12 ⟨rfl, hb⟩; refine ⟨_, rfl, ?_⟩; have n0_ := Aside0.mk (Kd.vD (by (with_reducible repeat (first | apply Kd.uN | apply Kd.uO | apply Kd.uP)); exact (Kd.uZ (Kd.vG (p := ⟨gb139, 1, none⟩) (Kd.vG (p := ⟨gb139, 0, none⟩) (Kd.vR HO135.out BK139.out (by decide)) (fun _ hk => hk.2) (.slice Ao32 t133.length co32)) (fun _ hk => hk.2) (.slice Ao35 t136.length co35)) (fun _ h_ => h_.1))) hb); have n1_ := Aside0.mk (Kd.vD (by (with_reducible repeat (first | apply Kd.uN | apply Kd.uO | apply Kd.uP)); exact (Kd.uZ (Kd.vG (p := ⟨gb139, 1, none⟩) (Kd.vG (p := ⟨gb139, 0, none⟩) (Kd.vR HO138.out BK139.out (by decide)) (fun _ hk => hk.2) (.slice Ao32 t133.length co32)) (fun _ hk => hk.2) (.slice Ao35 t136.length co35)) (fun _ h_ => h_.1))) hb); have n2_ := Aside0.mk (uR (g := gb132) (o := .cells #[.slice none 0 0, .slice none 0 0] 31 (0, 0)) (by (with_reducible repeat (first | refine uC ?_ _ | refine uE ?_ | refine uD ?_ _)); refine vF ?_ NB132_139.out _; (with_reducible repeat (first | refine uC ?_ _ | refine uE ?_ | refine uD ?_ _)); refine vF ?_ NB132_139.out _; (with_reducible repeat (first | refine uC ?_ _ | refine uE ?_ | refine uD ?_ _)); exact BK132.out) hb); have n3_ := Aside0.mk (uR (g := gb139) (o := .cells #[.slice Ao32 t133.length co32, .slice Ao35 t136.length co35] 31 (0, 0)) (by (with_reducible repeat (first | refine uC ?_ _ | refine uE ?_ | refine uD ?_ _)); refine uW (cs := #[.slice Ao32 t133.length co32, .slice none 0 0]) ?_ 1 _ rfl; (with_reducible repeat (first | refine uC ?_ _ | refine uE ?_ | refine uD ?_ _)); refine uW (cs := #[.slice none 0 0, .slice none 0 0]) ?_ 0 _ rfl; (with_reducible repeat (first | refine uC ?_ _ | refine uE ?_ | refine uD ?_ _)); exact BK139.out) hb); have n4_ := Aside0.mk (uS (by repeat (first | (with_reducible first | exact HB.out | apply uG | apply uA | apply uF | refine uB ?_ GE132.out | refine uB ?_ GE139.out) | exact HB.out)) hb); clear HO135; clear HO138; clear BK132; clear BK139; clear HB; have HO135 := n0_; have HO138 := n1_; have BK132 := n2_; have BK139 := n3_; have HB := n4_; clear n0_ n1_ n2_ n3_ n4_; (try clear hb); (try clear hb2); (try clear hk); (try clear hi)))
  go_loopg [5] k (fun kq v5 w' => ∃ (x5_1 : Int) (x140000_1 : List Int) (x140001_1 : List (S49)) (u140000 : Value) (u140001 : Value), v5 = .int .i64 x5_1 ∧ Aside0 (spec_ReplayLog.l0 kq l0 x5_1 x140000_1 x140001_1 = some (r1, r2, r3)) ∧ Aside0 (kq ≤ k) ∧ Aside0 (Kd.R (Kd.int .i64) 3 w' w.heap.size (fun _ => True) u140000 x140000_1) ∧ Aside0 (Kd.R k49 49 w' w.heap.size (fun _ => True) u140001 x140001_1) ∧ Aside0 (w'.heap[gb132]? = some (.cells #[(.slice none 0 0), (.slice none 0 0)] 31 (0, 0))) ∧ Aside0 (w'.heap[gb139]? = some (.cells #[u140000, u140001] 31 (0, 0))) ∧ Aside0 (Below w.heap.size w w'))
  case atStart => exact ⟨(0), (t133), (t136), (.slice Ao32 t133.length co32), (.slice Ao35 t136.length co35), (by first | rfl | (simp; done) | (simp [*]; done)), H', ⟨Nat.le_refl _⟩, ⟨by (with_reducible repeat (first | apply Kd.uN | apply Kd.uO | apply Kd.uP)); exact HO135.out⟩, ⟨by (with_reducible repeat (first | apply Kd.uN | apply Kd.uO | apply Kd.uP)); exact HO138.out⟩, ⟨by (with_reducible repeat (first | refine uC ?_ _ | refine uE ?_ | refine uD ?_ _)); exact BK132.out⟩, ⟨by (with_reducible repeat (first | refine uC ?_ _ | refine uE ?_ | refine uD ?_ _)); exact BK139.out⟩, ⟨by repeat (first | (with_reducible first | exact HB.out | apply uG | apply uA | apply uF | refine uB ?_ GE132.out | refine uB ?_ GE139.out) | exact HB.out)⟩⟩
  case round =>
    clear H'
    try clear p2
    try clear c3
    try clear c4
    try clear c6
    try clear c7
    try clear c9
    try clear hcz34_0
    try clear hcz34_1
    try clear hfz34_0
    try clear hfz34_1
    obtain ⟨x5_1, x140000_1, x140001_1, u140000, u140001, rfl, HA, HK1, HO_140000, HO_140001, BK132, BK139, HB⟩ := hrel
    cases gk with
    | zero => exact absurd HA.out (by simp [spec_ReplayLog.l0])
    | succ k1 =>
      have H := HA.out
      clear HA
      simp only [spec_ReplayLog.l0] at H
      by_cases c13 : x5_1 < (l0.length : Int)
      rotate_left
      · rw [if_neg c13] at H
        have c13b0 : decide (x5_1 < (l0.length : Int)) = false := decide_eq_false c13
        clear c13
        simp only [Option.some.injEq, Prod.mk.injEq] at H
        obtain ⟨rfl, rfl, rfl⟩ := H
        have hnb24 := NB139_132.out
        have hnc24 := NB132_139.out
        have hcz25_0 : wr.cell? ⟨gb139, 0, none⟩ = some (u140000) := (uI BK139.out 0).trans rfl
        have hcz25_1 : wr.cell? ⟨gb139, 1, none⟩ = some (u140001) := (uI BK139.out 1).trans rfl
        have hfz25_0 := uK BK139.out 0
        have hfz25_1 := uK BK139.out 1
        obtain ⟨Ao26, co26, eo26⟩ := Kd.vN HO_140000.out
        subst eo26
        have hcz27_0 : wr.cell? ⟨gb132, 0, none⟩ = some (.slice none 0 0) := (uI BK132.out 0).trans rfl
        have hcz27_1 : wr.cell? ⟨gb132, 1, none⟩ = some (.slice none 0 0) := (uI BK132.out 1).trans rfl
        have hfz27_0 := uK BK132.out 0
        have hfz27_1 := uK BK132.out 1
        obtain ⟨Ao28, co28, eo28⟩ := Kd.vN HO_140001.out
        subst eo28
        go_wp2
        refine bodyPost_ret (results_ct rfl _ _ gb132 31 #[.slice Ao26 x140000_1.length co26, .slice Ao28 x140001_1.length co28] (0, 0) _ rfl (by (with_reducible repeat (first | refine uC ?_ _ | refine uE ?_ | refine uD ?_ _)); refine uW (cs := #[.slice Ao26 x140000_1.length co26, .slice none 0 0]) ?_ 1 _ rfl; (with_reducible repeat (first | refine uC ?_ _ | refine uE ?_ | refine uD ?_ _)); refine uW (cs := #[.slice none 0 0, .slice none 0 0]) ?_ 0 _ rfl; (with_reducible repeat (first | refine uC ?_ _ | refine uE ?_ | refine uD ?_ _)); exact BK132.out) Try.underlying31 rfl (by kernel_rfl)) rfl ?_
        exact ⟨_, _, by first | rfl | (simp [errW_none, errW_some] <;> rfl) | (simp [*, errW_none, errW_some] <;> rfl), by (with_reducible repeat (first | apply Kd.uN | apply Kd.uO | apply Kd.uP)); exact Kd.uZ (Kd.vG (p := ⟨gb132, 1, none⟩) (Kd.vG (p := ⟨gb132, 0, none⟩) (Kd.vR HO_140000.out BK132.out (by decide)) (fun _ hk => hk.2) (.slice Ao26 x140000_1.length co26)) (fun _ hk => hk.2) (.slice Ao28 x140001_1.length co28)) (fun _ hk => trivial), by (with_reducible repeat (first | apply Kd.uN | apply Kd.uO | apply Kd.uP)); exact Kd.uZ (Kd.vG (p := ⟨gb132, 1, none⟩) (Kd.vG (p := ⟨gb132, 0, none⟩) (Kd.vR HO_140001.out BK132.out (by decide)) (fun _ hk => hk.2) (.slice Ao26 x140000_1.length co26)) (fun _ hk => hk.2) (.slice Ao28 x140001_1.length co28)) (fun _ hk => trivial), by repeat (first | (with_reducible first | exact HB.out | apply uG | apply uA | apply uF | refine uB ?_ GE132.out | refine uB ?_ GE139.out) | exact HB.out)⟩
      rw [if_pos c13] at H
      have c13b0 : decide (x5_1 < (l0.length : Int)) = true := decide_eq_true c13
      clear c13
      by_cases c14 : 0 ≤ x5_1
      rotate_left
      · rw [if_neg c14] at H
        exact absurd H (by simp)
      rw [if_pos c14] at H
      have c14b0 : decide (0 ≤ x5_1) = true := decide_eq_true c14
      clear c14
      replace H := Option.bind_eq_some_iff.mp H
      obtain ⟨⟨t142, t145, t148, t149, t150⟩, A150, H⟩ := H
      replace H : (spec_ReplayLog.l0 k1 l0 (wrap64 (x5_1 + 1)) t142 t145) = some (r1, r2, r3) := H
      have A15 := Aside0.mk A150
      clear A150
      have H' := Aside0.mk H
      clear H
      try go_wp2
      have n0_ := Aside0.mk (Kd.uP HO_140000.out)
      have n1_ := Aside0.mk (Kd.uP HO_140001.out)
      have n2_ := Aside0.mk (uE BK132.out)
      have n3_ := Aside0.mk (uE BK139.out)
      have n4_ := Aside0.mk (uF HB.out)
      clear HO_140000
      clear HO_140001
      clear BK132
      clear BK139
      clear HB
      have HO_140000 := n0_
      have HO_140001 := n1_
      have BK132 := n2_
      have BK139 := n3_
      have HB := n4_
      clear n0_ n1_ n2_ n3_ n4_
      have p141 : 0 ≤ (x5_1 : Int) := of_decide_eq_true (by first | (with_reducible assumption) | assumption)
      have q141 : x5_1 < (l0.length : Int) := of_decide_eq_true (by first | (with_reducible assumption) | assumption)
      obtain ⟨ad141, e141, hx141_0, hx141_1, hx141_2, hx141_3, hx141_4, hx141_5, hx141_6⟩ := at_T72 HR0.out x5_1 p141 q141
      have hw141_6 := hx141_6
      have hw141_5 := hx141_5
      have hw141_4 := hx141_4
      have hw141_3 := hx141_3
      have hw141_2 := hx141_2
      have hw141_1 := hx141_1
      have hw141_0 := hx141_0
      cases e141
      replace hx141_0 := (HB.out.cell (yA w _ hx141_0)).trans hx141_0
      replace hx141_1 := (HB.out.cell (yA w _ hx141_1)).trans hx141_1
      replace hx141_2 := (HB.out.cell (yA w _ hx141_2)).trans hx141_2
      replace hx141_3 := (HB.out.cell (yA w _ hx141_3)).trans hx141_3
      replace hx141_4 := (HB.out.cell (yA w _ hx141_4)).trans hx141_4
      replace hx141_5 := (HB.out.cell (yA w _ hx141_5)).trans hx141_5
      replace hx141_6 := (HB.out.cell (yA w _ hx141_6)).trans hx141_6
      replace p141 := eq_true p141
      replace q141 := eq_true q141
      obtain ⟨Ao17, co17, eo17⟩ := Kd.vN HO_140000.out
      (first | subst eo17 | (injection eo17 with f1_ f2_ f3_; have f4_ := f1_.symm; have f5_ := f3_.symm; clear f1_ f2_ f3_; subst f4_; subst f5_))
      obtain ⟨Ao18, co18, eo18⟩ := Kd.vN HO_140001.out
      (first | subst eo18 | (injection eo18 with f1_ f2_ f3_; have f4_ := f1_.symm; have f5_ := f3_.symm; clear f1_ f2_ f3_; subst f4_; subst f5_))
      refine start_ (n := 12) (S := fun w' => w'.cell? ⟨gb139, 0, none⟩ = some (.slice Ao17 x140000_1.length co17) ∧ w'.cell? ⟨gb139, 1, none⟩ = some (.slice Ao18 x140001_1.length co18) ∧ w'.cell? (ad141.add ((x5_1).toNat * 7)) = some (.int .i64 ((rd_T72 l0 x5_1).f0)) ∧ w'.cell? ⟨(ad141.add ((x5_1).toNat * 7)).block, (ad141.add ((x5_1).toNat * 7)).off + 1, none⟩ = some (.int .i64 ((rd_T72 l0 x5_1).f1.f0)) ∧ w'.cell? ⟨(ad141.add ((x5_1).toNat * 7)).block, (ad141.add ((x5_1).toNat * 7)).off + 2, none⟩ = some (.int .i64 ((rd_T72 l0 x5_1).f1.f1)) ∧ w'.cell? ⟨(ad141.add ((x5_1).toNat * 7)).block, (ad141.add ((x5_1).toNat * 7)).off + 3, none⟩ = some (.int .i64 ((rd_T72 l0 x5_1).f1.f2)) ∧ w'.cell? ⟨(ad141.add ((x5_1).toNat * 7)).block, (ad141.add ((x5_1).toNat * 7)).off + 4, none⟩ = some (.int .i64 ((rd_T72 l0 x5_1).f1.f3)) ∧ w'.cell? ⟨(ad141.add ((x5_1).toNat * 7)).block, (ad141.add ((x5_1).toNat * 7)).off + 5, none⟩ = some (.int .i64 ((rd_T72 l0 x5_1).f1.f4)) ∧ w'.cell? ⟨(ad141.add ((x5_1).toNat * 7)).block, (ad141.add ((x5_1).toNat * 7)).off + 6, none⟩ = some (.int .i64 ((rd_T72 l0 x5_1).f1.f5))) (ds := [11]) #[false, false, false, false, false, false, false, false, false, false, false, false] (by kernel_rfl) rfl rfl ⟨(uI BK139.out 0).trans rfl, (uI BK139.out 1).trans rfl, ((HB.out.cell (yA w _ hw141_0)).trans hw141_0), ((HB.out.cell (yA w _ hw141_1)).trans hw141_1), ((HB.out.cell (yA w _ hw141_2)).trans hw141_2), ((HB.out.cell (yA w _ hw141_3)).trans hw141_3), ((HB.out.cell (yA w _ hw141_4)).trans hw141_4), ((HB.out.cell (yA w _ hw141_5)).trans hw141_5), ((HB.out.cell (yA w _ hw141_6)).trans hw141_6)⟩ (fun hHeld => ?_); refine with_tabW spec_ReplayLog.tab7 spec_ReplayLog.bits7 (fun HT_ HW_ => ?_)
      generalize wr.drew = w16 at HO_140000 HO_140001 BK132 BK139 HB hx141_0 hx141_1 hx141_2 hx141_3 hx141_4 hx141_5 hx141_6 hHeld ⊢
      refine uJ (i := 1) (N := some 19) (v := ?_) (a' := ?_) #[false, true, false, false, false, false, false, false, false, false, false, false] rfl rfl (vL HT_.out (by kernel_rfl)) (fun _ _ _ h => h) (Or.inl ⟨by rfl, ?_⟩) ?_ ?_
      rotate_left
      · intro w'
        go_simp
        with_reducible rfl
      rotate_left
      · simp only [Act.put, vU, vV, vW, uL, uM]
        rfl
      refine uJ (i := 2) (N := some 20) (v := ?_) (a' := ?_) #[false, true, true, false, false, false, false, false, false, false, false, false] rfl rfl (vL HT_.out (by kernel_rfl)) (fun _ _ _ h => h) (Or.inl ⟨by rfl, ?_⟩) ?_ ?_
      rotate_left
      · intro w'
        go_simp
        with_reducible rfl
      rotate_left
      · simp only [Act.put, vU, vV, vW, uL, uM]
        rfl
      refine uJ (i := 3) (N := some 21) (v := ?_) (a' := ?_) #[false, true, true, true, false, false, false, false, false, false, false, false] rfl rfl (vL HT_.out (by kernel_rfl)) (fun _ _ _ h => h) (Or.inl ⟨by rfl, ?_⟩) ?_ ?_
      rotate_left
      · intro w'
        go_simp
        with_reducible rfl
      rotate_left
      · simp only [Act.put, vU, vV, vW, uL, uM]
        rfl
      refine uJ (i := 4) (N := some 22) (v := ?_) (a' := ?_) #[false, true, true, true, true, false, false, false, false, false, false, false] rfl rfl (vL HT_.out (by kernel_rfl)) (fun _ _ _ h => h) (Or.inl ⟨by rfl, ?_⟩) ?_ ?_
      rotate_left
      · intro w'
        go_simp
        with_reducible rfl
      rotate_left
      · simp only [Act.put, vU, vV, vW, uL, uM]
        rfl
      refine take_ (i := 0) (N := some 18) (v := ?_) (a' := ?_) #[true, true, true, true, true, false, false, false, false, false, false, false] rfl rfl (take_ofW HT_.out HW_.out (by kernel_rfl)) (fun _ _ _ h => h) (Or.inl ⟨by rfl, ?_⟩) hHeld ?_ ?_
      rotate_left
      · rintro w' ⟨s0, s1, s2, s3, s4, s5, s6, s7, s8⟩
        go_simp
        with_reducible rfl
      rotate_left
      · simp only [Act.put, vU, vV, vW, uL, uM]
        rfl
      refine take_ (i := 5) (N := some 23) (v := ?_) (a' := ?_) #[true, true, true, true, true, true, false, false, false, false, false, false] rfl rfl (take_ofW HT_.out HW_.out (by kernel_rfl)) (fun _ _ _ h => h) (Or.inl ⟨by rfl, ?_⟩) hHeld ?_ ?_
      rotate_left
      · rintro w' ⟨s0, s1, s2, s3, s4, s5, s6, s7, s8⟩
        go_simp
        with_reducible rfl
      rotate_left
      · simp only [Act.put, vU, vV, vW, uL, uM]
        rfl
      refine one_ (i := 6) (N := some 24) #[true, true, true, true, true, true, true, false, false, false, false, false] rfl rfl (one_of HT_.out (by kernel_rfl)) (by decide) (fun K hK => ?_)
      refine goes_ Try.func9 (by kernel_rfl) rfl #[.agg #[.slice Ao17 x140000_1.length co17, .slice Ao18 x140001_1.length co18], .agg #[.int .i64 ((rd_T72 l0 x5_1).f1.f0), .int .i64 ((rd_T72 l0 x5_1).f1.f1), .int .i64 ((rd_T72 l0 x5_1).f1.f2), .int .i64 ((rd_T72 l0 x5_1).f1.f3), .int .i64 ((rd_T72 l0 x5_1).f1.f4), .int .i64 ((rd_T72 l0 x5_1).f1.f5)]] (by rfl) rfl rfl (by (try simp only [vX, List.map_cons, List.map_nil]); first | done | rfl | (simp only [vZ, vY]; rfl)) ?_
      with_reducible refine (spec_ApplyOp.calls k1 _ _ x140000_1 _ _ x140001_1 ((rd_T72 l0 x5_1).f1.f0) ((rd_T72 l0 x5_1).f1.f1) ((rd_T72 l0 x5_1).f1.f2) ((rd_T72 l0 x5_1).f1.f3) ((rd_T72 l0 x5_1).f1.f4) ((rd_T72 l0 x5_1).f1.f5) t142 t145 t148 t149 t150 _ ?side1 ?side2 ?side3 ?side4 A15.out).mono ?_
      (case side1 => repeat (first | exact (Kd.vH HO_140000.out).2.2 | (with_reducible refine Kd.vQ ?_ _) | (with_reducible refine Kd.vP ?_ _) | (with_reducible refine Kd.vS ?_)))
      (case side2 => exact (Kd.vH HO_140000.out).2.1)
      (case side3 => repeat (first | exact (Kd.vH HO_140001.out).2.2 | (with_reducible refine Kd.vQ ?_ _) | (with_reducible refine Kd.vP ?_ _) | (with_reducible refine Kd.vS ?_)))
      (case side4 => exact (Kd.vH HO_140001.out).2.1)
      rintro e w19 ⟨v143, v146, rfl, ho0, ho1, hb⟩
      refine ⟨_, rfl, ?_⟩
      have n0_ := Aside0.mk (Kd.R_elder' (by (with_reducible repeat (first | apply Kd.uN | apply Kd.uO | apply Kd.uP)); exact HO_140000.out) (Kd.R_base ho0) hb)
      have n1_ := Aside0.mk (Kd.R_elder' (by (with_reducible repeat (first | apply Kd.uN | apply Kd.uO | apply Kd.uP)); exact HO_140001.out) (Kd.R_base ho1) hb)
      have n2_ := Aside0.mk (Kd.vO (Kd.R_new' ho0 (Kd.R_lt (by (with_reducible repeat (first | apply Kd.uN | apply Kd.uO | apply Kd.uP)); exact HO_140000.out))) (uQ (by repeat (first | (with_reducible first | exact HB.out | apply uG | apply uA | apply uF | refine uB ?_ GE132.out | refine uB ?_ GE139.out) | exact HB.out))))
      have n3_ := Aside0.mk (Kd.vO (Kd.R_new' ho1 (Kd.R_lt (by (with_reducible repeat (first | apply Kd.uN | apply Kd.uO | apply Kd.uP)); exact HO_140001.out))) (uQ (by repeat (first | (with_reducible first | exact HB.out | apply uG | apply uA | apply uF | refine uB ?_ GE132.out | refine uB ?_ GE139.out) | exact HB.out))))
      have n4_ := Aside0.mk (uR (g := gb132) (o := .cells #[.slice none 0 0, .slice none 0 0] 31 (0, 0)) (by (with_reducible repeat (first | refine uC ?_ _ | refine uE ?_ | refine uD ?_ _)); exact BK132.out) hb)
      have n5_ := Aside0.mk (uR (g := gb139) (o := .cells #[.slice Ao17 x140000_1.length co17, .slice Ao18 x140001_1.length co18] 31 (0, 0)) (by (with_reducible repeat (first | refine uC ?_ _ | refine uE ?_ | refine uD ?_ _)); exact BK139.out) hb)
      have n6_ := Aside0.mk (uS (by repeat (first | (with_reducible first | exact HB.out | apply uG | apply uA | apply uF | refine uB ?_ GE132.out | refine uB ?_ GE139.out) | exact HB.out)) hb)
      clear HO_140000
      clear HO_140001
      clear BK132
      clear BK139
      clear HB
      have HO_140000 := n0_
      have HO_140001 := n1_
      have HO144 := n2_
      have HO147 := n3_
      have BK132 := n4_
      have BK139 := n5_
      have HB := n6_
      clear n0_ n1_ n2_ n3_ n4_ n5_ n6_
      (try clear hb)
      (try clear hb2)
      (try clear hk)
      (try clear hi)
      (try clear ho0)
      (try clear ho1)
      obtain ⟨Ao20, co20, eo20⟩ := Kd.vN HO144.out
      (first | subst eo20 | (injection eo20 with f1_ f2_ f3_; have f4_ := f1_.symm; have f5_ := f3_.symm; clear f1_ f2_ f3_; subst f4_; subst f5_))
      obtain ⟨Ao22, co22, eo22⟩ := Kd.vN HO147.out
      (first | subst eo22 | (injection eo22 with f1_ f2_ f3_; have f4_ := f1_.symm; have f5_ := f3_.symm; clear f1_ f2_ f3_; subst f4_; subst f5_))
      refine hK.out _ _ ⟨(uI BK139.out 0).trans rfl, (uI BK139.out 1).trans rfl, ((HB.out.cell (yA w _ hw141_0)).trans hw141_0), ((HB.out.cell (yA w _ hw141_1)).trans hw141_1), ((HB.out.cell (yA w _ hw141_2)).trans hw141_2), ((HB.out.cell (yA w _ hw141_3)).trans hw141_3), ((HB.out.cell (yA w _ hw141_4)).trans hw141_4), ((HB.out.cell (yA w _ hw141_5)).trans hw141_5), ((HB.out.cell (yA w _ hw141_6)).trans hw141_6)⟩ (fun hHeld => ?_)
      clear hK K
      refine vC (a' := ?_) ?_ ?_
      rotate_left
      · show Act.put _ (some 24) _ = _
        simp only [Act.put, vU, vV, vW, uL, uM]
        rfl
      refine uJ (i := 7) (N := some 17) (v := ?_) (a' := ?_) #[true, true, true, true, true, true, true, true, false, false, false, false] rfl rfl (vL HT_.out (by kernel_rfl)) (fun _ _ _ h => h) (Or.inl ⟨by rfl, ?_⟩) ?_ ?_
      rotate_left
      · intro w'
        go_simp
        with_reducible rfl
      rotate_left
      · simp only [Act.put, vU, vV, vW, uL, uM]
        rfl
      refine uJ (i := 8) (N := some 25) (v := ?_) (a' := ?_) #[true, true, true, true, true, true, true, true, true, false, false, false] rfl rfl (vL HT_.out (by kernel_rfl)) (fun _ _ _ h => h) (Or.inl ⟨by rfl, ?_⟩) ?_ ?_
      rotate_left
      · intro w'
        go_simp
        with_reducible rfl
      rotate_left
      · simp only [Act.put, vU, vV, vW, uL, uM]
        rfl
      refine uJ (i := 9) (N := some 26) (v := ?_) (a' := ?_) #[true, true, true, true, true, true, true, true, true, true, false, false] rfl rfl (vL HT_.out (by kernel_rfl)) (fun _ _ _ h => h) (Or.inl ⟨by rfl, ?_⟩) ?_ ?_
      rotate_left
      · intro w'
        go_simp
        with_reducible rfl
      rotate_left
      · simp only [Act.put, vU, vV, vW, uL, uM]
        rfl
      refine uJ (i := 10) (N := some 27) (v := ?_) (a' := ?_) #[true, true, true, true, true, true, true, true, true, true, true, false] rfl rfl (vL HT_.out (by kernel_rfl)) (fun _ _ _ h => h) (Or.inl ⟨by rfl, ?_⟩) ?_ ?_
      rotate_left
      · intro w'
        go_simp
        with_reducible rfl
      rotate_left
      · simp only [Act.put, vU, vV, vW, uL, uM]
        rfl
      refine last_ (i := 11) (N := none) #[true, true, true, true, true, true, true, true, true, true, true, true] rfl rfl (one_of HT_.out (by kernel_rfl)) (by decide) (fun K hK => ?_)
      have hs21 : w19.cell? ⟨gb139, 0, none⟩ = some (.slice Ao17 x140000_1.length co17) := (uI BK139.out 0).trans rfl
      have hfs21 := uK BK139.out 0
      have hns21_0 := NB132_139.out
      have hms21_0 := NB139_132.out
      have hs23 : w19.cell? ⟨gb139, 1, none⟩ = some (.slice Ao18 x140001_1.length co18) := (uI BK139.out 1).trans rfl
      have hfs23 := uK BK139.out 1
      have hns23_0 := NB132_139.out
      have hms23_0 := NB139_132.out
      refine skip_ (w1 := ?_) (by rfl) rfl ?_ ?_
      rotate_left
      · go_simp
        rfl
      refine hK.out _ _ ?_
      clear hK K
      refine done_ (done_of HT_.out (by kernel_rfl)) ?_
      try go_wp2
      go_roundg k1
      case measure => have := HK1.out; omega
      case rel => exact ⟨(wrap64 (x5_1 + 1)), (t142), (t145), (.slice Ao20 t142.length co20), (.slice Ao22 t145.length co22), (by first | rfl | (simp; done) | (simp [*]; done)), H', ⟨by have := HK1.out; omega⟩, ⟨by (with_reducible repeat (first | apply Kd.uN | apply Kd.uO | apply Kd.uP)); exact Kd.uZ (Kd.vG (p := ⟨gb139, 1, none⟩) (Kd.vG (p := ⟨gb139, 0, none⟩) (Kd.vR HO144.out BK139.out (by decide)) (fun _ hk => hk.2) (.slice Ao20 t142.length co20)) (fun _ hk => hk.2) (.slice Ao22 t145.length co22)) (fun _ hk => trivial)⟩, ⟨by (with_reducible repeat (first | apply Kd.uN | apply Kd.uO | apply Kd.uP)); exact Kd.uZ (Kd.vG (p := ⟨gb139, 1, none⟩) (Kd.vG (p := ⟨gb139, 0, none⟩) (Kd.vR HO147.out BK139.out (by decide)) (fun _ hk => hk.2) (.slice Ao20 t142.length co20)) (fun _ hk => hk.2) (.slice Ao22 t145.length co22)) (fun _ hk => trivial)⟩, ⟨by (with_reducible repeat (first | refine uC ?_ _ | refine uE ?_ | refine uD ?_ _)); refine vF ?_ NB132_139.out _; (with_reducible repeat (first | refine uC ?_ _ | refine uE ?_ | refine uD ?_ _)); refine vF ?_ NB132_139.out _; (with_reducible repeat (first | refine uC ?_ _ | refine uE ?_ | refine uD ?_ _)); exact BK132.out⟩, ⟨by (with_reducible repeat (first | refine uC ?_ _ | refine uE ?_ | refine uD ?_ _)); refine uW (cs := #[.slice Ao20 t142.length co20, .slice Ao18 x140001_1.length co18]) ?_ 1 _ rfl; (with_reducible repeat (first | refine uC ?_ _ | refine uE ?_ | refine uD ?_ _)); refine uW (cs := #[.slice Ao17 x140000_1.length co17, .slice Ao18 x140001_1.length co18]) ?_ 0 _ rfl; (with_reducible repeat (first | refine uC ?_ _ | refine uE ?_ | refine uD ?_ _)); exact BK139.out⟩, ⟨by repeat (first | (with_reducible first | exact HB.out | apply uG | apply uA | apply uF | refine uB ?_ GE132.out | refine uB ?_ GE139.out) | exact HB.out)⟩⟩

end Go.Proofs.Ytcikahnmiiichaa.T
