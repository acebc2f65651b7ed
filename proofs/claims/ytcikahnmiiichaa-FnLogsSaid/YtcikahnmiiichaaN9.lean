/- Go functions as Lean functions, and the proof that the code comes to them: written by a program of this session out of the translation. -/
import Derived.Test.YtcikahnmiiichaaN0
import Derived.Test.YtcikahnmiiichaaN7
import Derived.Test.YtcikahnmiiichaaN8
namespace Go.Proofs.Ytcikahnmiiichaa.N
open List renaming setIfInBounds_toArray → yA, set_cons_zero → yB, set_cons_succ → yC, map_toArray → yD
open Go.World renaming block_lt_of_cell? → yG
open Go.RowKit Go.Proofs.YtcikahnmiiichaaW.PrintWords Go.Proofs.YtcikahnmiiichaaW.PrintLast Go.Proofs.YtcikahnmiiichaaW.PrintMore
attribute [local go_sem] max2_int min2_int max_two min_two vX vY max_four min_four   -- for this text's walks alone
set_option linter.unusedVariables false
set_option linter.unusedSimpArgs false

/-! ### spec_ReplayLog: function 30 -/
def spec_ReplayLog.l0 : Nat → List (S72) → Int → List Int → List (S49) → Option (List Int × (List (S49)) × Bool)
  | 0, _, _, _, _ => none
  | k + 1, x0, x5, x146000, x146001 => if x5 < (x0.length : Int) then (if 0 ≤ x5 then ((spec_ApplyOp.f k x146000 x146001 ((rd_T72 x0 x5).f1.f0) ((rd_T72 x0 x5).f1.f1) ((rd_T72 x0 x5).f1.f2) ((rd_T72 x0 x5).f1.f3) ((rd_T72 x0 x5).f1.f4) ((rd_T72 x0 x5).f1.f5)).bind fun bt148 => (spec_ReplayLog.l0 k x0 (wrap64 (x5 + 1)) bt148.1 bt148.2.1)) else (none)) else (some (x146000, x146001, true))
def spec_ReplayLog.f (k : Nat) (l0 : List (S72)) : Option (List Int × (List (S49)) × Bool) := (spec_NewMachine.f).bind fun bt139 => ((spec_IsLog.f k l0).bind fun t146 => (if t146 = true then (spec_ReplayLog.l0 k l0 0 bt139.1 bt139.2) else (some (([] : List Int), ([] : List (S49)), false))))
theorem spec_ReplayLog.mono_l : ∀ k, (∀ y0 y1 y2 y3, uI (spec_ReplayLog.l0 k y0 y1 y2 y3) (spec_ReplayLog.l0 (k + 1) y0 y1 y2 y3))
  | 0 => fun _ _ _ _ r h => by simp [spec_ReplayLog.l0] at h
  | k + 1 => by
    have ih0 := spec_ReplayLog.mono_l k
    intro y0 y1 y2 y3
    unfold spec_ReplayLog.l0
    repeat' first
    | (with_reducible exact ih0 _ _ _ _)
    | (with_reducible exact spec_ApplyOp.mono _ _ _ _ _ _ _ _ _)
    | (with_reducible exact spec_IsLog.mono _ _)
    | (with_reducible exact uI.refl _)
    | (with_reducible exact uI.none _)
    | (with_reducible refine uI.ite ?_ ?_)
    | (with_reducible refine uI.bind ?_ (fun _ => ?_))
    | exact ih0 _ _ _ _
    | exact uI.none _
    | refine uI.ite ?_ ?_
    | refine uI.bind ?_ (fun _ => ?_)
theorem spec_ReplayLog.mono : ∀ a0 k, uI (spec_ReplayLog.f k a0) (spec_ReplayLog.f (k + 1) a0) := by
  intro a0 k
  have ih0 := spec_ReplayLog.mono_l k
  unfold spec_ReplayLog.f
  repeat' first
      | (with_reducible exact ih0 _ _ _ _)
      | (with_reducible exact spec_ApplyOp.mono _ _ _ _ _ _ _ _ _)
      | (with_reducible exact spec_IsLog.mono _ _)
      | (with_reducible exact uI.refl _)
      | (with_reducible exact uI.none _)
      | (with_reducible refine uI.ite ?_ ?_)
      | (with_reducible refine uI.bind ?_ (fun _ => ?_))
      | exact ih0 _ _ _ _
      | exact uI.none _
      | refine uI.ite ?_ ?_
      | refine uI.bind ?_ (fun _ => ?_)
def spec_ReplayLog.T7 : Bool × List (List Nat × List Nat) := (true, [([], []), ([], []), ([], []), ([1, 2], [1, 2]), ([3], [3]), ([4], [4]), ([0, 5], [0, 5]), ([6], [6]), ([7], [7]), ([7], [7]), ([7], [7]), ([8, 6, 0, 1, 2, 3, 4, 5, 6, 7, 8], [8])])
def spec_ReplayLog.B7 : List Nat := [0, 0, 0, 6, 14, 30, 63, 127, 255, 255, 255, 511]
theorem spec_ReplayLog.tab7 : rtab .any (opsOf Try.f30 7) = spec_ReplayLog.T7 := by kernel_rfl
theorem spec_ReplayLog.bits7 : waitsOk spec_ReplayLog.T7.2 spec_ReplayLog.B7 = true := by kernel_rfl
set_option maxHeartbeats 8000000 in
set_option maxRecDepth 100000 in
theorem spec_ReplayLog.calls (k : Nat) (A0 : Option Addr) (c0 : Nat) (l0 : List (S72)) (r1 : List Int) (r2 : List (S49)) (r3 : Bool) (w : World) (hr0 : Kd.C k72 w A0 l0.length l0) (hc0 : l0.length ≤ c0) (h : spec_ReplayLog.f k l0 = some (r1, r2, r3)) :
    Calls Try.prog 30 #[.slice A0 l0.length c0] w fun e w' => ∃ v0_ v1_ : Value, e = .returned (.tuple #[.agg #[v0_, v1_], .bool r3]) ∧ Kd.R (Kd.int .i64) 3 w' w.heap.size (fun _ => True) v0_ r1 ∧ Kd.R k49 49 w' w.heap.size (fun _ => True) v1_ r2 ∧ Below w.heap.size w w' := by
  have hu31 := Try.underlying31
  have hu37 := Try.underlying37
  have HR0 := Aside0.mk hr0
  have HC0 := Aside0.mk hc0
  clear hr0 hc0
  have HB := Aside0.mk (Below.refl w.heap.size w)
  have H : ((spec_NewMachine.f).bind fun bt139 => ((spec_IsLog.f k l0).bind fun t146 => (if t146 = true then (spec_ReplayLog.l0 k l0 0 bt139.1 bt139.2) else (some (([] : List Int), ([] : List (S49)), false))))) = some (r1, r2, r3) := h
  clear h
  replace H := Option.bind_eq_some_iff.mp H
  obtain ⟨⟨t139, t142⟩, A20, H⟩ := H
  try dsimp only at H
  have A2 := Aside0.mk A20
  clear A20
  replace H := Option.bind_eq_some_iff.mp H
  obtain ⟨t146, A30, H⟩ := H
  try dsimp only at H
  have A3 := Aside0.mk A30
  clear A30
  go_enter Try.func30, Try.ntmps30
  go_wp2_with (first | ((with_reducible refine uJ (N := 2) rfl ?_); refine bxe 2 #[.slice none 0 0, .slice none 0 0] 31 ?_; intro gb138 hg w29 hbox hb; have BK138 := Aside0.mk (hbox); have GW138 := tGe HB hg; have GE138 := tGe HB hg; replace HB := vB HB hb; clear hb hbox hg) | ((with_reducible refine uF (f := 70) rfl ?_); refine uX (some 6) Try.func70 #[] ?_; (with_reducible refine (spec_NewMachine.calls  t139 t142 _ A2.out).mono ?_); rintro e w30 ⟨v140, v143, rfl, ho0, ho1, hb⟩; refine ⟨_, rfl, ?_⟩; have HO141 := Aside0.mk (Kd.uS ho0 (uO vA)); have HO144 := Aside0.mk (Kd.uS ho1 (uO vA)); replace BK138 := uP BK138 hb; replace HB := vB HB hb; (try clear hb); (try clear ho0); (try clear ho1)) | ((with_reducible refine uJ (N := 4) rfl ?_); refine bxe 4 #[.slice none 0 0, .slice none 0 0] 31 ?_; intro gb145 hg w31 hbox hb; have BK145 := Aside0.mk (hbox); have GW145 := tGe HB hg; have GE145 := tGe HB hg; have NB138_145 := tNl BK138 hg; have NB145_138 := tNg BK138 hg; replace HO141 := Kd.tR HO141 hb; replace HO144 := Kd.tR HO144 hb; replace BK138 := uP BK138 hb; replace HB := vB HB hb; clear hb hbox hg; obtain ⟨Ao32, co32, eo32⟩ := Kd.uY HO141.out; subst eo32; have hnb33 := NB145_138.out; have hnc33 := NB138_145.out; obtain ⟨hcz34_0, hcz34_1, hfz34_0, hfz34_1⟩ := cz2 BK145; obtain ⟨Ao35, co35, eo35⟩ := Kd.uY HO144.out; subst eo35; refine ?roundEnd))
  case roundEnd =>
  by_cases c4 : t146 = true
  rotate_left
  · replace c4 := Bool.eq_false_iff.mpr c4
    subst c4
    try rw [if_neg (show ¬ (false = true) by decide)] at H
    simp only [Option.some.injEq, Prod.mk.injEq] at H
    obtain ⟨rfl, rfl, rfl⟩ := H
    go_wp2_with (first | ((with_reducible refine uF (f := 67) rfl ?_); refine uX (some 8) Try.func67 #[.slice A0 l0.length c0] ?_; (with_reducible refine (spec_IsLog.calls k _ _ l0 false _ ?side1 ?side2 A3.out).mono ?_); (case side1 => exact Kd.vC HR0.out vA); (case side2 => exact HC0.out); rintro e w36 ⟨rfl, hb⟩; refine ⟨_, rfl, ?_⟩; replace HO141 := Aside0.mk (Kd.R_below (by (with_reducible repeat (first | apply Kd.uQ | apply Kd.uR | apply Kd.uV)); exact (Kd.uN (Kd.uM (p := ⟨gb145, 1, none⟩) (Kd.uM (p := ⟨gb145, 0, none⟩) (Kd.vG HO141.out BK145.out (by decide)) (fun _ hk => hk.2) (.slice Ao32 t139.length co32)) (fun _ hk => hk.2) (.slice Ao35 t142.length co35)) (fun _ h_ => h_.1))) hb); replace HO144 := Aside0.mk (Kd.R_below (by (with_reducible repeat (first | apply Kd.uQ | apply Kd.uR | apply Kd.uV)); exact (Kd.uN (Kd.uM (p := ⟨gb145, 1, none⟩) (Kd.uM (p := ⟨gb145, 0, none⟩) (Kd.vG HO144.out BK145.out (by decide)) (fun _ hk => hk.2) (.slice Ao32 t139.length co32)) (fun _ hk => hk.2) (.slice Ao35 t142.length co35)) (fun _ h_ => h_.1))) hb); replace BK138 := tBlkF BK138 hb; replace BK145 := tBlkP BK145 #[.slice Ao32 t139.length co32, .slice Ao35 t142.length co35] hb; replace HB := vB HB hb; (try clear hb); obtain ⟨hcz37_0, hcz37_1, hfz37_0, hfz37_1⟩ := cz2 BK138))
    refine bodyPost_ret (results_ct rfl _ _ gb138 31 #[.slice none 0 0, .slice none 0 0] (0, 0) _ rfl (by (with_reducible repeat (first | refine uC ?_ _ | refine uE ?_ | refine uD ?_ _)); refine uL (cs := #[.slice none 0 0, .slice none 0 0]) ?_ 1 _ rfl; (with_reducible repeat (first | refine uC ?_ _ | refine uE ?_ | refine uD ?_ _)); refine uL (cs := #[.slice none 0 0, .slice none 0 0]) ?_ 0 _ rfl; (with_reducible repeat (first | refine uC ?_ _ | refine uE ?_ | refine uD ?_ _)); exact BK138.out) Try.underlying31 rfl (by kernel_rfl)) rfl ?_
    exact ⟨_, _, cq3, cq62, cq62, vA⟩
  subst c4
  try rw [if_pos rfl] at H
  have H' := Aside0.mk H
  clear H
  go_wp2_with (first | ((with_reducible refine uF (f := 67) rfl ?_); refine uX (some 8) Try.func67 #[.slice A0 l0.length c0] ?_; (with_reducible refine (spec_IsLog.calls k _ _ l0 true _ ?side1 ?side2 A3.out).mono ?_); (case side1 => exact Kd.vC HR0.out vA); (case side2 => exact HC0.out); rintro e w12 ⟨rfl, hb⟩; refine ⟨_, rfl, ?_⟩; replace HO141 := Aside0.mk (Kd.R_below (by (with_reducible repeat (first | apply Kd.uQ | apply Kd.uR | apply Kd.uV)); exact (Kd.uN (Kd.uM (p := ⟨gb145, 1, none⟩) (Kd.uM (p := ⟨gb145, 0, none⟩) (Kd.vG HO141.out BK145.out (by decide)) (fun _ hk => hk.2) (.slice Ao32 t139.length co32)) (fun _ hk => hk.2) (.slice Ao35 t142.length co35)) (fun _ h_ => h_.1))) hb); replace HO144 := Aside0.mk (Kd.R_below (by (with_reducible repeat (first | apply Kd.uQ | apply Kd.uR | apply Kd.uV)); exact (Kd.uN (Kd.uM (p := ⟨gb145, 1, none⟩) (Kd.uM (p := ⟨gb145, 0, none⟩) (Kd.vG HO144.out BK145.out (by decide)) (fun _ hk => hk.2) (.slice Ao32 t139.length co32)) (fun _ hk => hk.2) (.slice Ao35 t142.length co35)) (fun _ h_ => h_.1))) hb); replace BK138 := tBlkF BK138 hb; replace BK145 := tBlkP BK145 #[.slice Ao32 t139.length co32, .slice Ao35 t142.length co35] hb; replace HB := vB HB hb; (try clear hb)))
  go_loopg [5] k (fun kq v5 w' => ∃ (x5_1 : Int) (x146000_1 : List Int) (x146001_1 : List (S49)) (u146000 : Value) (u146001 : Value), v5 = .int .i64 x5_1 ∧ Aside0 (spec_ReplayLog.l0 kq l0 x5_1 x146000_1 x146001_1 = some (r1, r2, r3)) ∧ Aside0 (kq ≤ k) ∧ Aside0 (Kd.R (Kd.int .i64) 3 w' w.heap.size (fun _ => True) u146000 x146000_1) ∧ Aside0 (Kd.R k49 49 w' w.heap.size (fun _ => True) u146001 x146001_1) ∧ Aside0 (w'.heap[gb138]? = some (.cells #[(.slice none 0 0), (.slice none 0 0)] 31 (0, 0))) ∧ Aside0 (w'.heap[gb145]? = some (.cells #[u146000, u146001] 31 (0, 0))) ∧ Aside0 (Below w.heap.size w w'))
  case atStart => exact ⟨(0), (t139), (t142), (.slice Ao32 t139.length co32), (.slice Ao35 t142.length co35), cq15, H', ⟨Nat.le_refl _⟩, ⟨by (with_reducible repeat (first | apply Kd.uQ | apply Kd.uR | apply Kd.uV)); exact HO141.out⟩, ⟨by (with_reducible repeat (first | apply Kd.uQ | apply Kd.uR | apply Kd.uV)); exact HO144.out⟩, ⟨by (with_reducible repeat (first | refine uC ?_ _ | refine uE ?_ | refine uD ?_ _)); exact BK138.out⟩, ⟨by (with_reducible repeat (first | refine uC ?_ _ | refine uE ?_ | refine uD ?_ _)); exact BK145.out⟩, ⟨vA⟩⟩
  case round =>
    clear H'
    try clear c4
    try clear hcz34_0
    try clear hcz34_1
    try clear hfz34_0
    try clear hfz34_1
    obtain ⟨x5_1, x146000_1, x146001_1, u146000, u146001, rfl, HA, HK1, HO_146000, HO_146001, BK138, BK145, HB⟩ := hrel
    cases gk with
    | zero => exact absurd HA.out (by simp [spec_ReplayLog.l0])
    | succ k1 =>
      have H := HA.out
      clear HA
      simp only [spec_ReplayLog.l0] at H
      by_cases c13 : x5_1 < (l0.length : Int)
      rotate_left
      · rw [if_neg c13] at H
        have c13b0 := decide_eq_false c13
        clear c13
        simp only [Option.some.injEq, Prod.mk.injEq] at H
        obtain ⟨rfl, rfl, rfl⟩ := H
        have hnb24 := NB145_138.out
        have hnc24 := NB138_145.out
        obtain ⟨hcz25_0, hcz25_1, hfz25_0, hfz25_1⟩ := cz2 BK145
        obtain ⟨Ao26, co26, eo26⟩ := Kd.uY HO_146000.out
        subst eo26
        obtain ⟨hcz27_0, hcz27_1, hfz27_0, hfz27_1⟩ := cz2 BK138
        obtain ⟨Ao28, co28, eo28⟩ := Kd.uY HO_146001.out
        subst eo28
        go_wp2
        refine bodyPost_ret (results_ct rfl _ _ gb138 31 #[.slice Ao26 x146000_1.length co26, .slice Ao28 x146001_1.length co28] (0, 0) _ rfl (by (with_reducible repeat (first | refine uC ?_ _ | refine uE ?_ | refine uD ?_ _)); refine uL (cs := #[.slice Ao26 x146000_1.length co26, .slice none 0 0]) ?_ 1 _ rfl; (with_reducible repeat (first | refine uC ?_ _ | refine uE ?_ | refine uD ?_ _)); refine uL (cs := #[.slice none 0 0, .slice none 0 0]) ?_ 0 _ rfl; (with_reducible repeat (first | refine uC ?_ _ | refine uE ?_ | refine uD ?_ _)); exact BK138.out) Try.underlying31 rfl (by kernel_rfl)) rfl ?_
        exact ⟨_, _, cq3, by (with_reducible repeat (first | apply Kd.uQ | apply Kd.uR | apply Kd.uV)); exact Kd.uN (Kd.uM (p := ⟨gb138, 1, none⟩) (Kd.uM (p := ⟨gb138, 0, none⟩) (Kd.vG HO_146000.out BK138.out (by decide)) (fun _ hk => hk.2) (.slice Ao26 x146000_1.length co26)) (fun _ hk => hk.2) (.slice Ao28 x146001_1.length co28)) (fun _ hk => trivial), by (with_reducible repeat (first | apply Kd.uQ | apply Kd.uR | apply Kd.uV)); exact Kd.uN (Kd.uM (p := ⟨gb138, 1, none⟩) (Kd.uM (p := ⟨gb138, 0, none⟩) (Kd.vG HO_146001.out BK138.out (by decide)) (fun _ hk => hk.2) (.slice Ao26 x146000_1.length co26)) (fun _ hk => hk.2) (.slice Ao28 x146001_1.length co28)) (fun _ hk => trivial), vA⟩
      rw [if_pos c13] at H
      have c13b0 := decide_eq_true c13
      clear c13
      obtain ⟨c14b0, H⟩ := ifD H
      replace H := Option.bind_eq_some_iff.mp H
      obtain ⟨⟨t148, t151, t154, t155, t156⟩, A150, H⟩ := H
      try dsimp only at H
      have A15 := Aside0.mk A150
      clear A150
      have H' := Aside0.mk H
      clear H
      try go_wp2
      replace HO_146000 := Aside0.mk (Kd.uV HO_146000.out)
      replace HO_146001 := Aside0.mk (Kd.uV HO_146001.out)
      replace BK138 := Aside0.mk (uE BK138.out)
      replace BK145 := Aside0.mk (uE BK145.out)
      replace HB := Aside0.mk (vM HB.out)
      have p147 : 0 ≤ (x5_1 : Int) := of_decide_eq_true cq12
      have q147 : x5_1 < (l0.length : Int) := of_decide_eq_true cq12
      obtain ⟨ad147, e147, hx147_0, hx147_1, hx147_2, hx147_3, hx147_4, hx147_5, hx147_6⟩ := at_T72 HR0.out x5_1 p147 q147
      have hw147_6 := hx147_6
      have hw147_5 := hx147_5
      have hw147_4 := hx147_4
      have hw147_3 := hx147_3
      have hw147_2 := hx147_2
      have hw147_1 := hx147_1
      have hw147_0 := hx147_0
      cases e147
      replace hx147_0 := (HB.out.cell (yG w _ hx147_0)).trans hx147_0
      replace hx147_1 := (HB.out.cell (yG w _ hx147_1)).trans hx147_1
      replace hx147_2 := (HB.out.cell (yG w _ hx147_2)).trans hx147_2
      replace hx147_3 := (HB.out.cell (yG w _ hx147_3)).trans hx147_3
      replace hx147_4 := (HB.out.cell (yG w _ hx147_4)).trans hx147_4
      replace hx147_5 := (HB.out.cell (yG w _ hx147_5)).trans hx147_5
      replace hx147_6 := (HB.out.cell (yG w _ hx147_6)).trans hx147_6
      replace p147 := eq_true p147
      replace q147 := eq_true q147
      obtain ⟨Ao17, co17, eo17⟩ := Kd.uY HO_146000.out
      (first | subst eo17 | (injection eo17 with f1_ f2_ f3_; have f4_ := f1_.symm; have f5_ := f3_.symm; clear f1_ f2_ f3_; subst f4_; subst f5_))
      obtain ⟨Ao18, co18, eo18⟩ := Kd.uY HO_146001.out
      (first | subst eo18 | (injection eo18 with f1_ f2_ f3_; have f4_ := f1_.symm; have f5_ := f3_.symm; clear f1_ f2_ f3_; subst f4_; subst f5_))
      refine start_ (n := 12) (S := fun w' => w'.cell? ⟨gb145, 0, none⟩ = some (.slice Ao17 x146000_1.length co17) ∧ w'.cell? ⟨gb145, 1, none⟩ = some (.slice Ao18 x146001_1.length co18) ∧ w'.cell? (ad147.add ((x5_1).toNat * 7)) = some (.int .i64 ((rd_T72 l0 x5_1).f0)) ∧ w'.cell? ⟨(ad147.add ((x5_1).toNat * 7)).block, (ad147.add ((x5_1).toNat * 7)).off + 1, none⟩ = some (.int .i64 ((rd_T72 l0 x5_1).f1.f0)) ∧ w'.cell? ⟨(ad147.add ((x5_1).toNat * 7)).block, (ad147.add ((x5_1).toNat * 7)).off + 2, none⟩ = some (.int .i64 ((rd_T72 l0 x5_1).f1.f1)) ∧ w'.cell? ⟨(ad147.add ((x5_1).toNat * 7)).block, (ad147.add ((x5_1).toNat * 7)).off + 3, none⟩ = some (.int .i64 ((rd_T72 l0 x5_1).f1.f2)) ∧ w'.cell? ⟨(ad147.add ((x5_1).toNat * 7)).block, (ad147.add ((x5_1).toNat * 7)).off + 4, none⟩ = some (.int .i64 ((rd_T72 l0 x5_1).f1.f3)) ∧ w'.cell? ⟨(ad147.add ((x5_1).toNat * 7)).block, (ad147.add ((x5_1).toNat * 7)).off + 5, none⟩ = some (.int .i64 ((rd_T72 l0 x5_1).f1.f4)) ∧ w'.cell? ⟨(ad147.add ((x5_1).toNat * 7)).block, (ad147.add ((x5_1).toNat * 7)).off + 6, none⟩ = some (.int .i64 ((rd_T72 l0 x5_1).f1.f5))) (ds := [11]) #[false, false, false, false, false, false, false, false, false, false, false, false] (by kernel_rfl) rfl rfl ⟨(uB BK145.out 0).trans rfl, (uB BK145.out 1).trans rfl, ((HB.out.cell (yG w _ hw147_0)).trans hw147_0), ((HB.out.cell (yG w _ hw147_1)).trans hw147_1), ((HB.out.cell (yG w _ hw147_2)).trans hw147_2), ((HB.out.cell (yG w _ hw147_3)).trans hw147_3), ((HB.out.cell (yG w _ hw147_4)).trans hw147_4), ((HB.out.cell (yG w _ hw147_5)).trans hw147_5), ((HB.out.cell (yG w _ hw147_6)).trans hw147_6)⟩ (fun hHeld => ?_); refine with_tabW spec_ReplayLog.tab7 spec_ReplayLog.bits7 (fun HT_ HW_ => ?_)
      generalize wr.drew = w16 at HO_146000 HO_146001 BK138 BK145 HB hx147_0 hx147_1 hx147_2 hx147_3 hx147_4 hx147_5 hx147_6 hHeld ⊢
      refine vR 1 (some 19) #[false, true, false, false, false, false, false, false, false, false, false, false] ?_
      refine vR 2 (some 20) #[false, true, true, false, false, false, false, false, false, false, false, false] ?_
      refine vR 3 (some 21) #[false, true, true, true, false, false, false, false, false, false, false, false] ?_
      refine vR 4 (some 22) #[false, true, true, true, true, false, false, false, false, false, false, false] ?_
      refine takeT 0 (some 18) #[true, true, true, true, true, false, false, false, false, false, false, false] ?_
      refine takeT 5 (some 23) #[true, true, true, true, true, true, false, false, false, false, false, false] ?_
      refine oneT 6 (some 24) #[true, true, true, true, true, true, true, false, false, false, false, false] (fun K hK => ?_)
      refine goesT Try.func9 #[.agg #[.slice Ao17 x146000_1.length co17, .slice Ao18 x146001_1.length co18], .agg #[.int .i64 ((rd_T72 l0 x5_1).f1.f0), .int .i64 ((rd_T72 l0 x5_1).f1.f1), .int .i64 ((rd_T72 l0 x5_1).f1.f2), .int .i64 ((rd_T72 l0 x5_1).f1.f3), .int .i64 ((rd_T72 l0 x5_1).f1.f4), .int .i64 ((rd_T72 l0 x5_1).f1.f5)]] ?_
      with_reducible refine (spec_ApplyOp.calls k1 _ _ x146000_1 _ _ x146001_1 ((rd_T72 l0 x5_1).f1.f0) ((rd_T72 l0 x5_1).f1.f1) ((rd_T72 l0 x5_1).f1.f2) ((rd_T72 l0 x5_1).f1.f3) ((rd_T72 l0 x5_1).f1.f4) ((rd_T72 l0 x5_1).f1.f5) t148 t151 t154 t155 t156 _ ?side1 ?side2 ?side3 ?side4 A15.out).mono ?_
      (case side1 => repeat (first | exact (Kd.uK HO_146000.out).2.2 | (with_reducible refine Kd.vW ?_ _) | (with_reducible refine Kd.vV ?_ _) | (with_reducible refine Kd.C_drew ?_)))
      (case side2 => exact (Kd.uK HO_146000.out).2.1)
      (case side3 => repeat (first | exact (Kd.uK HO_146001.out).2.2 | (with_reducible refine Kd.vW ?_ _) | (with_reducible refine Kd.vV ?_ _) | (with_reducible refine Kd.C_drew ?_)))
      (case side4 => exact (Kd.uK HO_146001.out).2.1)
      rintro e w19 ⟨v149, v152, rfl, ho0, ho1, hb⟩
      refine ⟨_, rfl, ?_⟩
      have HO150 := Aside0.mk (Kd.uS (Kd.vT ho0 (Kd.R_lt (uZ HO_146000.out))) (uO vA))
      have HO153 := Aside0.mk (Kd.uS (Kd.vT ho1 (Kd.R_lt (uZ HO_146001.out))) (uO vA))
      replace HO_146000 := Aside0.mk (Kd.vI (uZ HO_146000.out) (Kd.vS ho0) hb)
      replace HO_146001 := Aside0.mk (Kd.vI (uZ HO_146001.out) (Kd.vS ho1) hb)
      replace BK138 := uP BK138 hb
      replace BK145 := uP BK145 hb
      replace HB := vB HB hb
      (try clear hb)
      (try clear ho0)
      (try clear ho1)
      obtain ⟨Ao20, co20, eo20⟩ := Kd.uY HO150.out
      (first | subst eo20 | (injection eo20 with f1_ f2_ f3_; have f4_ := f1_.symm; have f5_ := f3_.symm; clear f1_ f2_ f3_; subst f4_; subst f5_))
      obtain ⟨Ao22, co22, eo22⟩ := Kd.uY HO153.out
      (first | subst eo22 | (injection eo22 with f1_ f2_ f3_; have f4_ := f1_.symm; have f5_ := f3_.symm; clear f1_ f2_ f3_; subst f4_; subst f5_))
      refine hK.out _ _ ⟨(uB BK145.out 0).trans rfl, (uB BK145.out 1).trans rfl, ((HB.out.cell (yG w _ hw147_0)).trans hw147_0), ((HB.out.cell (yG w _ hw147_1)).trans hw147_1), ((HB.out.cell (yG w _ hw147_2)).trans hw147_2), ((HB.out.cell (yG w _ hw147_3)).trans hw147_3), ((HB.out.cell (yG w _ hw147_4)).trans hw147_4), ((HB.out.cell (yG w _ hw147_5)).trans hw147_5), ((HB.out.cell (yG w _ hw147_6)).trans hw147_6)⟩ (fun hHeld => ?_)
      clear hK K
      refine vL (some 24) ?_
      refine vR 7 (some 17) #[true, true, true, true, true, true, true, true, false, false, false, false] ?_
      refine vR 8 (some 25) #[true, true, true, true, true, true, true, true, true, false, false, false] ?_
      refine vR 9 (some 26) #[true, true, true, true, true, true, true, true, true, true, false, false] ?_
      refine vR 10 (some 27) #[true, true, true, true, true, true, true, true, true, true, true, false] ?_
      refine last_ (i := 11) (N := none) #[true, true, true, true, true, true, true, true, true, true, true, true] rfl rfl (one_of HT_.out (by kernel_rfl)) (by decide) (fun K hK => ?_)
      have hs21 : w19.cell? ⟨gb145, 0, none⟩ = some (.slice Ao17 x146000_1.length co17) := (uB BK145.out 0).trans rfl
      have hfs21 := vK BK145.out 0
      have hns21_0 := NB138_145.out
      have hms21_0 := NB145_138.out
      have hs23 : w19.cell? ⟨gb145, 1, none⟩ = some (.slice Ao18 x146001_1.length co18) := (uB BK145.out 1).trans rfl
      have hfs23 := vK BK145.out 1
      have hns23_0 := NB138_145.out
      have hms23_0 := NB145_138.out
      refine skip_ (w1 := ?_) (by rfl) rfl ?_ ?_
      rotate_left
      · go_simp
        rfl
      refine hK.out _ _ ?_
      clear hK K
      refine done_ (done_of HT_.out (by kernel_rfl)) ?_
      try go_wp2
      go_roundg k1
      case measure => have := HK1.out; omega
      case rel => exact ⟨(wrap64 (x5_1 + 1)), (t148), (t151), (.slice Ao20 t148.length co20), (.slice Ao22 t151.length co22), cq15, H', ⟨by have := HK1.out; omega⟩, ⟨by (with_reducible repeat (first | apply Kd.uQ | apply Kd.uR | apply Kd.uV)); exact Kd.uN (Kd.uM (p := ⟨gb145, 1, none⟩) (Kd.uM (p := ⟨gb145, 0, none⟩) (Kd.vG HO150.out BK145.out (by decide)) (fun _ hk => hk.2) (.slice Ao20 t148.length co20)) (fun _ hk => hk.2) (.slice Ao22 t151.length co22)) (fun _ hk => trivial)⟩, ⟨by (with_reducible repeat (first | apply Kd.uQ | apply Kd.uR | apply Kd.uV)); exact Kd.uN (Kd.uM (p := ⟨gb145, 1, none⟩) (Kd.uM (p := ⟨gb145, 0, none⟩) (Kd.vG HO153.out BK145.out (by decide)) (fun _ hk => hk.2) (.slice Ao20 t148.length co20)) (fun _ hk => hk.2) (.slice Ao22 t151.length co22)) (fun _ hk => trivial)⟩, ⟨by (with_reducible repeat (first | refine uC ?_ _ | refine uE ?_ | refine uD ?_ _)); refine vO ?_ NB138_145.out _; (with_reducible repeat (first | refine uC ?_ _ | refine uE ?_ | refine uD ?_ _)); refine vO ?_ NB138_145.out _; (with_reducible repeat (first | refine uC ?_ _ | refine uE ?_ | refine uD ?_ _)); exact BK138.out⟩, ⟨by (with_reducible repeat (first | refine uC ?_ _ | refine uE ?_ | refine uD ?_ _)); refine uL (cs := #[.slice Ao20 t148.length co20, .slice Ao18 x146001_1.length co18]) ?_ 1 _ rfl; (with_reducible repeat (first | refine uC ?_ _ | refine uE ?_ | refine uD ?_ _)); refine uL (cs := #[.slice Ao17 x146000_1.length co17, .slice Ao18 x146001_1.length co18]) ?_ 0 _ rfl; (with_reducible repeat (first | refine uC ?_ _ | refine uE ?_ | refine uD ?_ _)); exact BK145.out⟩, ⟨vA⟩⟩

end Go.Proofs.Ytcikahnmiiichaa.N
