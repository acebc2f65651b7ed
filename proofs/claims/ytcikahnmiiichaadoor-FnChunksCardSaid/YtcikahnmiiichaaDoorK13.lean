/- Go functions as Lean functions, and the proof that the code comes to them: written by a program of this session out of the translation. -/
import Derived.Test.YtcikahnmiiichaaDoorK0
import Derived.Test.YtcikahnmiiichaaDoorK1
import Derived.Test.YtcikahnmiiichaaDoorK8
import Derived.Test.YtcikahnmiiichaaDoorK11
import Derived.Test.YtcikahnmiiichaaDoorK12
namespace Go.Proofs.YtcikahnmiiichaaDoor.K
open List renaming setIfInBounds_toArray → vZ, set_cons_zero → yA, set_cons_succ → yB
open Go.World renaming block_lt_of_cell? → yF
open Go.Proofs.YtcikahnmiiichaaDoor.Given
open Go.RowKit Go.Proofs.YtcikahnmiiichaaDoorW.PrintWords Go.Proofs.YtcikahnmiiichaaDoorW.PrintLast Go.Proofs.YtcikahnmiiichaaDoorW.PrintMore
attribute [local go_sem] max2_int min2_int max_two min_two vW vV max_four min_four   -- for this text's walks alone
set_option linter.unusedVariables false
set_option linter.unusedSimpArgs false

/-! ### spec_ReplayLog: function 117 -/
def spec_ReplayLog.l0 : Nat → List (S66) → Int → List Int → List (S97) → Option (List Int × (List (S97)) × Bool)
 | 0, _, _, _, _ => none
 | k + 1, x0, x5, x316000, x316001 => if x5 < (x0.length : Int) then (if 0 ≤ x5 then ((spec_ApplyOp.f k x316000 x316001 ((rd_T66 x0 x5).f1.f0) ((rd_T66 x0 x5).f1.f1) ((rd_T66 x0 x5).f1.f2) ((rd_T66 x0 x5).f1.f3) ((rd_T66 x0 x5).f1.f4) ((rd_T66 x0 x5).f1.f5)).bind fun bt318 => (spec_ReplayLog.l0 k x0 (wrap64 (x5 + 1)) bt318.1 bt318.2.1)) else (none)) else (some (x316000, x316001, true))
def spec_ReplayLog.f (k : Nat) (l0 : List (S66)) : Option (List Int × (List (S97)) × Bool) := (spec_NewMachine.f).bind fun bt309 => ((spec_IsLog.f k l0).bind fun t316 => (if t316 = true then (spec_ReplayLog.l0 k l0 0 bt309.1 bt309.2) else (some (([] : List Int), ([] : List (S97)), false))))
theorem spec_ReplayLog.mono_l : ∀ k, (∀ y0 y1 y2 y3, uA (spec_ReplayLog.l0 k y0 y1 y2 y3) (spec_ReplayLog.l0 (k + 1) y0 y1 y2 y3))
 | 0 => fun _ _ _ _ r h => by simp [spec_ReplayLog.l0] at h
 | k + 1 => by
  have ih0 := spec_ReplayLog.mono_l k
  intro y0 y1 y2 y3
  unfold spec_ReplayLog.l0
  repeat' first
  | (with_reducible exact ih0 _ _ _ _)
  | (with_reducible exact spec_ApplyOp.mono _ _ _ _ _ _ _ _ _)
  | (with_reducible exact spec_IsLog.mono _ _)
  | (with_reducible exact uA.refl _)
  | (with_reducible exact uA.none _)
  | (with_reducible refine uA.vA ?_ ?_)
  | (with_reducible refine uA.bind ?_ (fun _ => ?_))
  | exact ih0 _ _ _ _
  | exact uA.none _
  | refine uA.vA ?_ ?_
  | refine uA.bind ?_ (fun _ => ?_)
theorem spec_ReplayLog.mono : ∀ a0 k, uA (spec_ReplayLog.f k a0) (spec_ReplayLog.f (k + 1) a0) := by
 intro a0 k
 have ih0 := spec_ReplayLog.mono_l k
 unfold spec_ReplayLog.f
 repeat' first
   | (with_reducible exact ih0 _ _ _ _)
   | (with_reducible exact spec_ApplyOp.mono _ _ _ _ _ _ _ _ _)
   | (with_reducible exact spec_IsLog.mono _ _)
   | (with_reducible exact uA.refl _)
   | (with_reducible exact uA.none _)
   | (with_reducible refine uA.vA ?_ ?_)
   | (with_reducible refine uA.bind ?_ (fun _ => ?_))
   | exact ih0 _ _ _ _
   | exact uA.none _
   | refine uA.vA ?_ ?_
   | refine uA.bind ?_ (fun _ => ?_)
def spec_ReplayLog.T7 : Bool × List (List Nat × List Nat) := (true, [([], []), ([], []), ([], []), ([1, 2], [1, 2]), ([3], [3]), ([4], [4]), ([0, 5], [0, 5]), ([6], [6]), ([7], [7]), ([7], [7]), ([7], [7]), ([8, 6, 0, 1, 2, 3, 4, 5, 6, 7, 8], [8])])
def spec_ReplayLog.B7 : List Nat := [0, 0, 0, 6, 14, 30, 63, 127, 255, 255, 255, 511]
theorem spec_ReplayLog.tab7 : rtab .any (opsOf Tryd.f117 7) = spec_ReplayLog.T7 := by kernel_rfl
theorem spec_ReplayLog.bits7 : waitsOk spec_ReplayLog.T7.2 spec_ReplayLog.B7 = true := by kernel_rfl
set_option maxHeartbeats 8000000 in
set_option maxRecDepth 100000 in
theorem spec_ReplayLog.calls (k : Nat) (A0 : Option Addr) (c0 : Nat) (l0 : List (S66)) (r1 : List Int) (r2 : List (S97)) (r3 : Bool) (w : World) (hr0 : Kd.C k66 w A0 l0.length l0) (hc0 : l0.length ≤ c0) (h : spec_ReplayLog.f k l0 = some (r1, r2, r3)) :
  Calls Tryd.prog 117 #[.slice A0 l0.length c0] w fun e w' => ∃ v0_ v1_ : Value, e = .returned (.tuple #[.agg #[v0_, v1_], .bool r3]) ∧ Kd.R (Kd.int .i64) 3 w' w.heap.size (fun _ => True) v0_ r1 ∧ Kd.R k97 97 w' w.heap.size (fun _ => True) v1_ r2 ∧ Below w.heap.size w w' := by
 have hu56 := Tryd.underlying56
 have hu64 := Tryd.underlying64
 have HR0 := Aside0.mk hr0
 have HC0 := Aside0.mk hc0
 clear hr0 hc0
 have HB := Aside0.mk (Below.refl w.heap.size w)
 have H : ((spec_NewMachine.f).bind fun bt309 => ((spec_IsLog.f k l0).bind fun t316 => (if t316 = true then (spec_ReplayLog.l0 k l0 0 bt309.1 bt309.2) else (some (([] : List Int), ([] : List (S97)), false))))) = some (r1, r2, r3) := h
 clear h
 replace H := Option.bind_eq_some_iff.mp H
 obtain ⟨⟨t309, t312⟩, A20, H⟩ := H
 try dsimp only at H
 have A2 := Aside0.mk A20
 clear A20
 replace H := Option.bind_eq_some_iff.mp H
 obtain ⟨t316, A30, H⟩ := H
 try dsimp only at H
 have A3 := Aside0.mk A30
 clear A30
 go_enter Tryd.func117, Tryd.ntmps117
 go_wp2_with (first | ((with_reducible refine uQ (N := 2) rfl ?_); refine bxe 2 #[.slice none 0 0, .slice none 0 0] 56 ?_; intro gb308 hg w29 hbox hb; have BK308 := Aside0.mk (hbox); have GW308 := tGe HB hg; have GE308 := tGe HB hg; replace HB := uH HB hb; clear hb hbox hg) | ((with_reducible refine uB (f := 133) rfl ?_); refine uL (some 6) Tryd.func133 #[] ?_; (with_reducible refine (spec_NewMachine.calls  t309 t312 _ A2.out).mono ?_); rintro e w30 ⟨v310, v313, rfl, ho0, ho1, hb⟩; refine ⟨_, rfl, ?_⟩; have HO311 := Aside0.mk (Kd.uN ho0 (uR cq2)); have HO314 := Aside0.mk (Kd.uN ho1 (uR cq2)); replace BK308 := vI BK308 hb; replace HB := uH HB hb; (try clear hb); (try clear ho0); (try clear ho1)) | ((with_reducible refine uQ (N := 4) rfl ?_); refine bxe 4 #[.slice none 0 0, .slice none 0 0] 56 ?_; intro gb315 hg w31 hbox hb; have BK315 := Aside0.mk (hbox); have GW315 := tGe HB hg; have GE315 := tGe HB hg; have NB308_315 := tNl BK308 hg; have NB315_308 := tNg BK308 hg; replace HO311 := Kd.tR HO311 hb; replace HO314 := Kd.tR HO314 hb; replace BK308 := vI BK308 hb; replace HB := uH HB hb; clear hb hbox hg; obtain ⟨Ao32, co32, eo32⟩ := Kd.uS HO311.out; subst eo32; have hnb33 := NB315_308.out; have hnc33 := NB308_315.out; obtain ⟨hcz34_0, hcz34_1, hfz34_0, hfz34_1⟩ := cz2 BK315; obtain ⟨Ao35, co35, eo35⟩ := Kd.uS HO314.out; subst eo35; refine ?roundEnd))
 case roundEnd =>
 by_cases c4 : t316 = true
 rotate_left
 ·replace c4 := Bool.eq_false_iff.mpr c4
  subst c4
  try rw [if_neg (show ¬ (false = true) by decide)] at H
  simp only [Option.some.injEq, Prod.mk.injEq] at H
  obtain ⟨rfl, rfl, rfl⟩ := H
  go_wp2_with (first | ((with_reducible refine uB (f := 15) rfl ?_); refine uL (some 8) Tryd.func15 #[.slice A0 l0.length c0] ?_; (with_reducible refine (spec_IsLog.calls k _ _ l0 false _ ?side1 ?side2 A3.out).mono ?_); (case side1 => exact Kd.vT HR0.out cq2); (case side2 => exact HC0.out); rintro e w36 ⟨rfl, hb⟩; refine ⟨_, rfl, ?_⟩; replace HO311 := Aside0.mk (Kd.R_below (by (with_reducible repeat (first | apply Kd.uK | apply Kd.uJ | apply Kd.uO)); exact (Kd.uG (Kd.uI (p := ⟨gb315, 1, none⟩) (Kd.uI (p := ⟨gb315, 0, none⟩) (Kd.vE HO311.out BK315.out (by decide)) (fun _ hk => hk.2) (.slice Ao32 t309.length co32)) (fun _ hk => hk.2) (.slice Ao35 t312.length co35)) (fun _ h_ => h_.1))) hb); replace HO314 := Aside0.mk (Kd.R_below (by (with_reducible repeat (first | apply Kd.uK | apply Kd.uJ | apply Kd.uO)); exact (Kd.uG (Kd.uI (p := ⟨gb315, 1, none⟩) (Kd.uI (p := ⟨gb315, 0, none⟩) (Kd.vE HO314.out BK315.out (by decide)) (fun _ hk => hk.2) (.slice Ao32 t309.length co32)) (fun _ hk => hk.2) (.slice Ao35 t312.length co35)) (fun _ h_ => h_.1))) hb); replace BK308 := tBlkF BK308 hb; replace BK315 := tBlkP BK315 #[.slice Ao32 t309.length co32, .slice Ao35 t312.length co35] hb; replace HB := uH HB hb; (try clear hb); obtain ⟨hcz37_0, hcz37_1, hfz37_0, hfz37_1⟩ := cz2 BK308))
  refine bodyPost_ret (results_ct rfl _ _ gb308 56 #[.slice none 0 0, .slice none 0 0] (0, 0) _ rfl (by (with_reducible repeat (first | refine uF ?_ _ | refine uE ?_ | refine uD ?_ _)); refine uZ (cs := #[.slice none 0 0, .slice none 0 0]) ?_ 1 _ rfl; (with_reducible repeat (first | refine uF ?_ _ | refine uE ?_ | refine uD ?_ _)); refine uZ (cs := #[.slice none 0 0, .slice none 0 0]) ?_ 0 _ rfl; (with_reducible repeat (first | refine uF ?_ _ | refine uE ?_ | refine uD ?_ _)); exact BK308.out) Tryd.underlying56 rfl (by kernel_rfl)) rfl ?_
  exact ⟨_, _, cq5, cq50, cq50, cq2⟩
 subst c4
 try rw [if_pos rfl] at H
 have H' := Aside0.mk H
 clear H
 go_wp2_with (first | ((with_reducible refine uB (f := 15) rfl ?_); refine uL (some 8) Tryd.func15 #[.slice A0 l0.length c0] ?_; (with_reducible refine (spec_IsLog.calls k _ _ l0 true _ ?side1 ?side2 A3.out).mono ?_); (case side1 => exact Kd.vT HR0.out cq2); (case side2 => exact HC0.out); rintro e w12 ⟨rfl, hb⟩; refine ⟨_, rfl, ?_⟩; replace HO311 := Aside0.mk (Kd.R_below (by (with_reducible repeat (first | apply Kd.uK | apply Kd.uJ | apply Kd.uO)); exact (Kd.uG (Kd.uI (p := ⟨gb315, 1, none⟩) (Kd.uI (p := ⟨gb315, 0, none⟩) (Kd.vE HO311.out BK315.out (by decide)) (fun _ hk => hk.2) (.slice Ao32 t309.length co32)) (fun _ hk => hk.2) (.slice Ao35 t312.length co35)) (fun _ h_ => h_.1))) hb); replace HO314 := Aside0.mk (Kd.R_below (by (with_reducible repeat (first | apply Kd.uK | apply Kd.uJ | apply Kd.uO)); exact (Kd.uG (Kd.uI (p := ⟨gb315, 1, none⟩) (Kd.uI (p := ⟨gb315, 0, none⟩) (Kd.vE HO314.out BK315.out (by decide)) (fun _ hk => hk.2) (.slice Ao32 t309.length co32)) (fun _ hk => hk.2) (.slice Ao35 t312.length co35)) (fun _ h_ => h_.1))) hb); replace BK308 := tBlkF BK308 hb; replace BK315 := tBlkP BK315 #[.slice Ao32 t309.length co32, .slice Ao35 t312.length co35] hb; replace HB := uH HB hb; (try clear hb)))
 go_loopg [5] k (fun kq v5 w' => ∃ (x5_1 : Int) (x316000_1 : List Int) (x316001_1 : List (S97)) (u316000 : Value) (u316001 : Value), v5 = .int .i64 x5_1 ∧ Aside0 (spec_ReplayLog.l0 kq l0 x5_1 x316000_1 x316001_1 = some (r1, r2, r3)) ∧ Aside0 (kq ≤ k) ∧ Aside0 (Kd.R (Kd.int .i64) 3 w' w.heap.size (fun _ => True) u316000 x316000_1) ∧ Aside0 (Kd.R k97 97 w' w.heap.size (fun _ => True) u316001 x316001_1) ∧ Aside0 (w'.heap[gb308]? = some (.cells #[(.slice none 0 0), (.slice none 0 0)] 56 (0, 0))) ∧ Aside0 (w'.heap[gb315]? = some (.cells #[u316000, u316001] 56 (0, 0))) ∧ Aside0 (Below w.heap.size w w'))
 case atStart => exact ⟨(0), (t309), (t312), (.slice Ao32 t309.length co32), (.slice Ao35 t312.length co35), vD, H', ⟨Nat.le_refl _⟩, ⟨by (with_reducible repeat (first | apply Kd.uK | apply Kd.uJ | apply Kd.uO)); exact HO311.out⟩, ⟨by (with_reducible repeat (first | apply Kd.uK | apply Kd.uJ | apply Kd.uO)); exact HO314.out⟩, ⟨by (with_reducible repeat (first | refine uF ?_ _ | refine uE ?_ | refine uD ?_ _)); exact BK308.out⟩, ⟨by (with_reducible repeat (first | refine uF ?_ _ | refine uE ?_ | refine uD ?_ _)); exact BK315.out⟩, ⟨cq2⟩⟩
 case round =>
  clear H'
  try clear c4
  try clear hcz34_0
  try clear hcz34_1
  try clear hfz34_0
  try clear hfz34_1
  obtain ⟨x5_1, x316000_1, x316001_1, u316000, u316001, rfl, HA, HK1, HO_316000, HO_316001, BK308, BK315, HB⟩ := hrel
  cases gk with
  | zero => exact absurd HA.out (by simp [spec_ReplayLog.l0])
  | succ k1 =>
   have H := HA.out
   clear HA
   simp only [spec_ReplayLog.l0] at H
   by_cases c13 : x5_1 < (l0.length : Int)
   rotate_left
   ·rw [if_neg c13] at H
    have c13b0 := decide_eq_false c13
    clear c13
    simp only [Option.some.injEq, Prod.mk.injEq] at H
    obtain ⟨rfl, rfl, rfl⟩ := H
    have hnb24 := NB315_308.out
    have hnc24 := NB308_315.out
    obtain ⟨hcz25_0, hcz25_1, hfz25_0, hfz25_1⟩ := cz2 BK315
    obtain ⟨Ao26, co26, eo26⟩ := Kd.uS HO_316000.out
    subst eo26
    obtain ⟨hcz27_0, hcz27_1, hfz27_0, hfz27_1⟩ := cz2 BK308
    obtain ⟨Ao28, co28, eo28⟩ := Kd.uS HO_316001.out
    subst eo28
    go_wp2
    refine bodyPost_ret (results_ct rfl _ _ gb308 56 #[.slice Ao26 x316000_1.length co26, .slice Ao28 x316001_1.length co28] (0, 0) _ rfl (by (with_reducible repeat (first | refine uF ?_ _ | refine uE ?_ | refine uD ?_ _)); refine uZ (cs := #[.slice Ao26 x316000_1.length co26, .slice none 0 0]) ?_ 1 _ rfl; (with_reducible repeat (first | refine uF ?_ _ | refine uE ?_ | refine uD ?_ _)); refine uZ (cs := #[.slice none 0 0, .slice none 0 0]) ?_ 0 _ rfl; (with_reducible repeat (first | refine uF ?_ _ | refine uE ?_ | refine uD ?_ _)); exact BK308.out) Tryd.underlying56 rfl (by kernel_rfl)) rfl ?_
    exact ⟨_, _, cq5, by (with_reducible repeat (first | apply Kd.uK | apply Kd.uJ | apply Kd.uO)); exact Kd.uG (Kd.uI (p := ⟨gb308, 1, none⟩) (Kd.uI (p := ⟨gb308, 0, none⟩) (Kd.vE HO_316000.out BK308.out (by decide)) (fun _ hk => hk.2) (.slice Ao26 x316000_1.length co26)) (fun _ hk => hk.2) (.slice Ao28 x316001_1.length co28)) (fun _ hk => trivial), by (with_reducible repeat (first | apply Kd.uK | apply Kd.uJ | apply Kd.uO)); exact Kd.uG (Kd.uI (p := ⟨gb308, 1, none⟩) (Kd.uI (p := ⟨gb308, 0, none⟩) (Kd.vE HO_316001.out BK308.out (by decide)) (fun _ hk => hk.2) (.slice Ao26 x316000_1.length co26)) (fun _ hk => hk.2) (.slice Ao28 x316001_1.length co28)) (fun _ hk => trivial), cq2⟩
   rw [if_pos c13] at H
   have c13b0 := decide_eq_true c13
   clear c13
   obtain ⟨c14b0, H⟩ := ifD H
   replace H := Option.bind_eq_some_iff.mp H
   obtain ⟨⟨t318, t321, t324, t325, t326⟩, A150, H⟩ := H
   try dsimp only at H
   have A15 := Aside0.mk A150
   clear A150
   have H' := Aside0.mk H
   clear H
   try go_wp2
   replace HO_316000 := Aside0.mk (Kd.uO HO_316000.out)
   replace HO_316001 := Aside0.mk (Kd.uO HO_316001.out)
   replace BK308 := Aside0.mk (uE BK308.out)
   replace BK315 := Aside0.mk (uE BK315.out)
   replace HB := Aside0.mk (vL HB.out)
   have p317 : 0 ≤ (x5_1 : Int) := of_decide_eq_true vC
   have q317 : x5_1 < (l0.length : Int) := of_decide_eq_true vC
   obtain ⟨ad317, e317, hx317_0, hx317_1, hx317_2, hx317_3, hx317_4, hx317_5, hx317_6⟩ := at_T66 HR0.out x5_1 p317 q317
   have hw317_6 := hx317_6
   have hw317_5 := hx317_5
   have hw317_4 := hx317_4
   have hw317_3 := hx317_3
   have hw317_2 := hx317_2
   have hw317_1 := hx317_1
   have hw317_0 := hx317_0
   cases e317
   replace hx317_0 := (HB.out.cell (yF w _ hx317_0)).trans hx317_0
   replace hx317_1 := (HB.out.cell (yF w _ hx317_1)).trans hx317_1
   replace hx317_2 := (HB.out.cell (yF w _ hx317_2)).trans hx317_2
   replace hx317_3 := (HB.out.cell (yF w _ hx317_3)).trans hx317_3
   replace hx317_4 := (HB.out.cell (yF w _ hx317_4)).trans hx317_4
   replace hx317_5 := (HB.out.cell (yF w _ hx317_5)).trans hx317_5
   replace hx317_6 := (HB.out.cell (yF w _ hx317_6)).trans hx317_6
   replace p317 := eq_true p317
   replace q317 := eq_true q317
   obtain ⟨Ao17, co17, eo17⟩ := Kd.uS HO_316000.out
   (first | subst eo17 | (injection eo17 with f1_ f2_ f3_; have f4_ := f1_.symm; have f5_ := f3_.symm; clear f1_ f2_ f3_; subst f4_; subst f5_))
   obtain ⟨Ao18, co18, eo18⟩ := Kd.uS HO_316001.out
   (first | subst eo18 | (injection eo18 with f1_ f2_ f3_; have f4_ := f1_.symm; have f5_ := f3_.symm; clear f1_ f2_ f3_; subst f4_; subst f5_))
   refine start_ (n := 12) (S := fun w' => w'.cell? ⟨gb315, 0, none⟩ = some (.slice Ao17 x316000_1.length co17) ∧ w'.cell? ⟨gb315, 1, none⟩ = some (.slice Ao18 x316001_1.length co18) ∧ w'.cell? (ad317.add ((x5_1).toNat * 7)) = some (.int .i64 ((rd_T66 l0 x5_1).f0)) ∧ w'.cell? ⟨(ad317.add ((x5_1).toNat * 7)).block, (ad317.add ((x5_1).toNat * 7)).off + 1, none⟩ = some (.int .i64 ((rd_T66 l0 x5_1).f1.f0)) ∧ w'.cell? ⟨(ad317.add ((x5_1).toNat * 7)).block, (ad317.add ((x5_1).toNat * 7)).off + 2, none⟩ = some (.int .i64 ((rd_T66 l0 x5_1).f1.f1)) ∧ w'.cell? ⟨(ad317.add ((x5_1).toNat * 7)).block, (ad317.add ((x5_1).toNat * 7)).off + 3, none⟩ = some (.int .i64 ((rd_T66 l0 x5_1).f1.f2)) ∧ w'.cell? ⟨(ad317.add ((x5_1).toNat * 7)).block, (ad317.add ((x5_1).toNat * 7)).off + 4, none⟩ = some (.int .i64 ((rd_T66 l0 x5_1).f1.f3)) ∧ w'.cell? ⟨(ad317.add ((x5_1).toNat * 7)).block, (ad317.add ((x5_1).toNat * 7)).off + 5, none⟩ = some (.int .i64 ((rd_T66 l0 x5_1).f1.f4)) ∧ w'.cell? ⟨(ad317.add ((x5_1).toNat * 7)).block, (ad317.add ((x5_1).toNat * 7)).off + 6, none⟩ = some (.int .i64 ((rd_T66 l0 x5_1).f1.f5))) (ds := [11]) tb35 (by kernel_rfl) rfl rfl ⟨(uC BK315.out 0).trans rfl, (uC BK315.out 1).trans rfl, ((HB.out.cell (yF w _ hw317_0)).trans hw317_0), ((HB.out.cell (yF w _ hw317_1)).trans hw317_1), ((HB.out.cell (yF w _ hw317_2)).trans hw317_2), ((HB.out.cell (yF w _ hw317_3)).trans hw317_3), ((HB.out.cell (yF w _ hw317_4)).trans hw317_4), ((HB.out.cell (yF w _ hw317_5)).trans hw317_5), ((HB.out.cell (yF w _ hw317_6)).trans hw317_6)⟩ (fun hHeld => ?_); refine with_tabW spec_ReplayLog.tab7 spec_ReplayLog.bits7 (fun HT_ HW_ => ?_)
   generalize wr.drew = w16 at HO_316000 HO_316001 BK308 BK315 HB hx317_0 hx317_1 hx317_2 hx317_3 hx317_4 hx317_5 hx317_6 hHeld ⊢
   refine uM 1 (some 19) #[false, true, false, false, false, false, false, false, false, false, false, false] ?_
   refine uM 2 (some 20) #[false, true, true, false, false, false, false, false, false, false, false, false] ?_
   refine uM 3 (some 21) #[false, true, true, true, false, false, false, false, false, false, false, false] ?_
   refine uM 4 (some 22) #[false, true, true, true, true, false, false, false, false, false, false, false] ?_
   refine takeT 0 (some 18) #[true, true, true, true, true, false, false, false, false, false, false, false] ?_
   refine takeT 5 (some 23) #[true, true, true, true, true, true, false, false, false, false, false, false] ?_
   refine oneT 6 (some 24) #[true, true, true, true, true, true, true, false, false, false, false, false] (fun K hK => ?_)
   refine goesT Tryd.func134 #[.agg #[.slice Ao17 x316000_1.length co17, .slice Ao18 x316001_1.length co18], .agg #[.int .i64 ((rd_T66 l0 x5_1).f1.f0), .int .i64 ((rd_T66 l0 x5_1).f1.f1), .int .i64 ((rd_T66 l0 x5_1).f1.f2), .int .i64 ((rd_T66 l0 x5_1).f1.f3), .int .i64 ((rd_T66 l0 x5_1).f1.f4), .int .i64 ((rd_T66 l0 x5_1).f1.f5)]] ?_
   with_reducible refine (spec_ApplyOp.calls k1 _ _ x316000_1 _ _ x316001_1 ((rd_T66 l0 x5_1).f1.f0) ((rd_T66 l0 x5_1).f1.f1) ((rd_T66 l0 x5_1).f1.f2) ((rd_T66 l0 x5_1).f1.f3) ((rd_T66 l0 x5_1).f1.f4) ((rd_T66 l0 x5_1).f1.f5) t318 t321 t324 t325 t326 _ ?side1 ?side2 ?side3 ?side4 A15.out).mono ?_
   (case side1 => repeat (first | exact (Kd.uY HO_316000.out).2.2 | (with_reducible refine Kd.C_alloc ?_ _) | (with_reducible refine Kd.C_drewN ?_ _) | (with_reducible refine Kd.C_drew ?_)))
   (case side2 => exact (Kd.uY HO_316000.out).2.1)
   (case side3 => repeat (first | exact (Kd.uY HO_316001.out).2.2 | (with_reducible refine Kd.C_alloc ?_ _) | (with_reducible refine Kd.C_drewN ?_ _) | (with_reducible refine Kd.C_drew ?_)))
   (case side4 => exact (Kd.uY HO_316001.out).2.1)
   rintro e w19 ⟨v319, v322, rfl, ho0, ho1, hb⟩
   refine ⟨_, rfl, ?_⟩
   have HO320 := Aside0.mk (Kd.uN (Kd.vJ ho0 (Kd.R_lt (uT HO_316000.out))) (uR cq2))
   have HO323 := Aside0.mk (Kd.uN (Kd.vJ ho1 (Kd.R_lt (uT HO_316001.out))) (uR cq2))
   replace HO_316000 := Aside0.mk (Kd.vF (uT HO_316000.out) (Kd.vK ho0) hb)
   replace HO_316001 := Aside0.mk (Kd.vF (uT HO_316001.out) (Kd.vK ho1) hb)
   replace BK308 := vI BK308 hb
   replace BK315 := vI BK315 hb
   replace HB := uH HB hb
   (try clear hb)
   (try clear ho0)
   (try clear ho1)
   obtain ⟨Ao20, co20, eo20⟩ := Kd.uS HO320.out
   (first | subst eo20 | (injection eo20 with f1_ f2_ f3_; have f4_ := f1_.symm; have f5_ := f3_.symm; clear f1_ f2_ f3_; subst f4_; subst f5_))
   obtain ⟨Ao22, co22, eo22⟩ := Kd.uS HO323.out
   (first | subst eo22 | (injection eo22 with f1_ f2_ f3_; have f4_ := f1_.symm; have f5_ := f3_.symm; clear f1_ f2_ f3_; subst f4_; subst f5_))
   refine hK.out _ _ ⟨(uC BK315.out 0).trans rfl, (uC BK315.out 1).trans rfl, ((HB.out.cell (yF w _ hw317_0)).trans hw317_0), ((HB.out.cell (yF w _ hw317_1)).trans hw317_1), ((HB.out.cell (yF w _ hw317_2)).trans hw317_2), ((HB.out.cell (yF w _ hw317_3)).trans hw317_3), ((HB.out.cell (yF w _ hw317_4)).trans hw317_4), ((HB.out.cell (yF w _ hw317_5)).trans hw317_5), ((HB.out.cell (yF w _ hw317_6)).trans hw317_6)⟩ (fun hHeld => ?_)
   clear hK K
   refine vH (some 24) ?_
   refine uM 7 (some 17) #[true, true, true, true, true, true, true, true, false, false, false, false] ?_
   refine uM 8 (some 25) tb39 ?_
   refine uM 9 (some 26) tb40 ?_
   refine uM 10 (some 27) tb41 ?_
   refine last_ (i := 11) (N := none) tb44 rfl rfl (one_of HT_.out (by kernel_rfl)) (by decide) (fun K hK => ?_)
   have hs21 : w19.cell? ⟨gb315, 0, none⟩ = some (.slice Ao17 x316000_1.length co17) := (uC BK315.out 0).trans rfl
   have hfs21 := vQ BK315.out 0
   have hns21_0 := NB308_315.out
   have hms21_0 := NB315_308.out
   have hs23 : w19.cell? ⟨gb315, 1, none⟩ = some (.slice Ao18 x316001_1.length co18) := (uC BK315.out 1).trans rfl
   have hfs23 := vQ BK315.out 1
   have hns23_0 := NB308_315.out
   have hms23_0 := NB315_308.out
   refine skip_ (w1 := ?_) (by rfl) rfl ?_ ?_
   rotate_left
   ·go_simp
    rfl
   refine hK.out _ _ ?_
   clear hK K
   refine done_ (done_of HT_.out (by kernel_rfl)) ?_
   try go_wp2
   go_roundg k1
   case measure => have := HK1.out; omega
   case rel => exact ⟨(wrap64 (x5_1 + 1)), (t318), (t321), (.slice Ao20 t318.length co20), (.slice Ao22 t321.length co22), vD, H', ⟨by have := HK1.out; omega⟩, ⟨by (with_reducible repeat (first | apply Kd.uK | apply Kd.uJ | apply Kd.uO)); exact Kd.uG (Kd.uI (p := ⟨gb315, 1, none⟩) (Kd.uI (p := ⟨gb315, 0, none⟩) (Kd.vE HO320.out BK315.out (by decide)) (fun _ hk => hk.2) (.slice Ao20 t318.length co20)) (fun _ hk => hk.2) (.slice Ao22 t321.length co22)) (fun _ hk => trivial)⟩, ⟨by (with_reducible repeat (first | apply Kd.uK | apply Kd.uJ | apply Kd.uO)); exact Kd.uG (Kd.uI (p := ⟨gb315, 1, none⟩) (Kd.uI (p := ⟨gb315, 0, none⟩) (Kd.vE HO323.out BK315.out (by decide)) (fun _ hk => hk.2) (.slice Ao20 t318.length co20)) (fun _ hk => hk.2) (.slice Ao22 t321.length co22)) (fun _ hk => trivial)⟩, ⟨by (with_reducible repeat (first | refine uF ?_ _ | refine uE ?_ | refine uD ?_ _)); refine blk_far ?_ NB308_315.out _; (with_reducible repeat (first | refine uF ?_ _ | refine uE ?_ | refine uD ?_ _)); refine blk_far ?_ NB308_315.out _; (with_reducible repeat (first | refine uF ?_ _ | refine uE ?_ | refine uD ?_ _)); exact BK308.out⟩, ⟨by (with_reducible repeat (first | refine uF ?_ _ | refine uE ?_ | refine uD ?_ _)); refine uZ (cs := #[.slice Ao20 t318.length co20, .slice Ao18 x316001_1.length co18]) ?_ 1 _ rfl; (with_reducible repeat (first | refine uF ?_ _ | refine uE ?_ | refine uD ?_ _)); refine uZ (cs := #[.slice Ao17 x316000_1.length co17, .slice Ao18 x316001_1.length co18]) ?_ 0 _ rfl; (with_reducible repeat (first | refine uF ?_ _ | refine uE ?_ | refine uD ?_ _)); exact BK315.out⟩, ⟨cq2⟩⟩

/-! ### spec_TakeSnapshot: function 98 -/
def spec_TakeSnapshot.j0 : Nat → List (S66) → Int → Bool → Option (Int × Int × List Int × (List (S97)) × Bool)
 | 0, _, _, _ => none
 | k + 1, x0, x1, x17 => if x17 = true then (some (0, 0, ([] : List Int), ([] : List (S97)), false)) else (if 0 ≤ x1 then (if x1 ≤ (x0.length : Int) then ((spec_ReplayLog.f k (x0.take (x1 : Int).toNat)).bind fun bt334 => ((spec_DigestOf.f k x0 x1).bind fun t342 => (some (x1, t342, bt334.1, bt334.2.1, true)))) else (none)) else (none))
def spec_TakeSnapshot.f (k : Nat) (l0 : List (S66)) (a1 : Int) : Option (Int × Int × List Int × (List (S97)) × Bool) := (spec_IsLog.f k l0).bind fun t328 => (if t328 = true then ((spec_l1In.f a1 0 (l0.length : Int)).bind fun t329 => (spec_TakeSnapshot.j0 k l0 a1 (!t329))) else (spec_TakeSnapshot.j0 k l0 a1 true))
theorem spec_TakeSnapshot.mono_l : ∀ k, (∀ y0 y1 y2, uA (spec_TakeSnapshot.j0 k y0 y1 y2) (spec_TakeSnapshot.j0 (k + 1) y0 y1 y2))
 | 0 => fun _ _ _ r h => by simp [spec_TakeSnapshot.j0] at h
 | k + 1 => by
  have ih0 := spec_TakeSnapshot.mono_l k
  intro y0 y1 y2
  unfold spec_TakeSnapshot.j0
  repeat' first
  | (with_reducible exact ih0 _ _ _)
  | (with_reducible exact spec_DigestOf.mono _ _ _)
  | (with_reducible exact spec_IsLog.mono _ _)
  | (with_reducible exact spec_ReplayLog.mono _ _)
  | (with_reducible exact uA.refl _)
  | (with_reducible exact uA.none _)
  | (with_reducible refine uA.vA ?_ ?_)
  | (with_reducible refine uA.bind ?_ (fun _ => ?_))
  | exact ih0 _ _ _
  | exact uA.none _
  | refine uA.vA ?_ ?_
  | refine uA.bind ?_ (fun _ => ?_)
theorem spec_TakeSnapshot.mono : ∀ a0 a1 k, uA (spec_TakeSnapshot.f k a0 a1) (spec_TakeSnapshot.f (k + 1) a0 a1) := by
 intro a0 a1 k
 have ih0 := spec_TakeSnapshot.mono_l k
 unfold spec_TakeSnapshot.f
 repeat' first
   | (with_reducible exact ih0 _ _ _)
   | (with_reducible exact spec_DigestOf.mono _ _ _)
   | (with_reducible exact spec_IsLog.mono _ _)
   | (with_reducible exact spec_ReplayLog.mono _ _)
   | (with_reducible exact uA.refl _)
   | (with_reducible exact uA.none _)
   | (with_reducible refine uA.vA ?_ ?_)
   | (with_reducible refine uA.bind ?_ (fun _ => ?_))
   | exact ih0 _ _ _
   | exact uA.none _
   | refine uA.vA ?_ ?_
   | refine uA.bind ?_ (fun _ => ?_)
def spec_TakeSnapshot.T4 : Bool × List (List Nat × List Nat) := (true, [([], []), ([], []), ([], []), ([1, 2], [1, 2]), ([], []), ([0, 3, 4], [0, 3, 4]), ([5, 3, 0, 1, 2, 3, 4, 5], [5]), ([6, 0, 1, 2, 3, 4, 5, 6], [])])
def spec_TakeSnapshot.B4 : List Nat := [0, 0, 0, 6, 0, 31, 63, 127]
theorem spec_TakeSnapshot.tab4 : rtab .any (opsOf Tryd.f98 4) = spec_TakeSnapshot.T4 := by kernel_rfl
theorem spec_TakeSnapshot.bits4 : waitsOk spec_TakeSnapshot.T4.2 spec_TakeSnapshot.B4 = true := by kernel_rfl
set_option maxHeartbeats 8000000 in
set_option maxRecDepth 100000 in
theorem spec_TakeSnapshot.calls (k : Nat) (A0 : Option Addr) (c0 : Nat) (l0 : List (S66)) (a1 : Int) (r1 : Int) (r2 : Int) (r3 : List Int) (r4 : List (S97)) (r5 : Bool) (w : World) (hr0 : Kd.C k66 w A0 l0.length l0) (hc0 : l0.length ≤ c0) (h : spec_TakeSnapshot.f k l0 a1 = some (r1, r2, r3, r4, r5)) :
  Calls Tryd.prog 98 #[.slice A0 l0.length c0, .int .i64 a1] w fun e w' => ∃ v2_ v3_ : Value, e = .returned (.tuple #[.agg #[.int .i64 r1, .int .i64 r2, v2_, v3_], .bool r5]) ∧ Kd.R (Kd.int .i64) 3 w' w.heap.size (fun _ => True) v2_ r3 ∧ Kd.R k97 97 w' w.heap.size (fun _ => True) v3_ r4 ∧ Below w.heap.size w w' := by
 have hu83 := Tryd.underlying83
 have hu56 := Tryd.underlying56
 have HR0 := Aside0.mk hr0
 have HC0 := Aside0.mk hc0
 clear hr0 hc0
 have HB := Aside0.mk (Below.refl w.heap.size w)
 have H : ((spec_IsLog.f k l0).bind fun t328 => (if t328 = true then ((spec_l1In.f a1 0 (l0.length : Int)).bind fun t329 => (spec_TakeSnapshot.j0 k l0 a1 (!t329))) else (spec_TakeSnapshot.j0 k l0 a1 true))) = some (r1, r2, r3, r4, r5) := h
 clear h
 have HC3 := Aside0.mk H
 clear H
 go_enter Tryd.func98, Tryd.ntmps98
 go_upto_region 1 with (first | ((with_reducible refine uQ (N := 4) rfl ?_); refine bxe 4 #[.int .i64 0, .int .i64 0, .slice none 0 0, .slice none 0 0] 83 ?_; intro gb327 hg w4 hbox hb; have BK327 := Aside0.mk (hbox); have GW327 := tGe HB hg; have GE327 := tGe HB hg; replace HB := uH HB hb; clear hb hbox hg))
 (try simp only [Act.put, vZ, yA, yB])
 go_cut [17] (fun v17 wc => ∃ (kq : Nat) (x17_2 : Bool), v17 = .bool x17_2 ∧ Aside0 (spec_TakeSnapshot.j0 kq l0 a1 x17_2 = some (r1, r2, r3, r4, r5)) ∧ Aside0 (kq ≤ k) ∧ Aside0 (wc.heap[gb327]? = some (.cells #[.int .i64 0, .int .i64 0, (.slice none 0 0), (.slice none 0 0)] 83 (0, 0))) ∧ Aside0 (Below w.heap.size w wc))
 case first =>
  have H := HC3.out
  clear HC3
  replace H := Option.bind_eq_some_iff.mp H
  obtain ⟨t328, A50, H⟩ := H
  try dsimp only at H
  have A5 := Aside0.mk A50
  clear A50
  by_cases c6 : t328 = true
  rotate_left
  ·replace c6 := Bool.eq_false_iff.mpr c6
   subst c6
   try rw [if_neg (show ¬ (false = true) by decide)] at H
   have H' := Aside0.mk H
   clear H
   go_wp2_with (first | ((with_reducible refine uB (f := 15) rfl ?_); refine uL (some 9) Tryd.func15 #[.slice A0 l0.length c0] ?_; (with_reducible refine (spec_IsLog.calls k _ _ l0 false _ ?side1 ?side2 A5.out).mono ?_); (case side1 => exact cq12); (case side2 => exact HC0.out); rintro e w9 ⟨rfl, hb⟩; refine ⟨_, rfl, ?_⟩; replace BK327 := vI BK327 hb; replace HB := uH HB hb; (try clear hb)))
   go_meet
   case rel => exact ⟨_, (true), vD, H', ⟨by first | omega | exact Nat.le_refl _⟩, ⟨by (with_reducible repeat (first | refine uF ?_ _ | refine uE ?_ | refine uD ?_ _)); exact BK327.out⟩, ⟨cq2⟩⟩
  subst c6
  try rw [if_pos rfl] at H
  replace H := Option.bind_eq_some_iff.mp H
  obtain ⟨t329, A70, H⟩ := H
  try dsimp only at H
  have A7 := Aside0.mk A70
  clear A70
  have H' := Aside0.mk H
  clear H
  go_wp2_with (first | ((with_reducible refine uB (f := 15) rfl ?_); refine uL (some 9) Tryd.func15 #[.slice A0 l0.length c0] ?_; (with_reducible refine (spec_IsLog.calls k _ _ l0 true _ ?side1 ?side2 A5.out).mono ?_); (case side1 => exact cq12); (case side2 => exact HC0.out); rintro e w8 ⟨rfl, hb⟩; refine ⟨_, rfl, ?_⟩; replace BK327 := vI BK327 hb; replace HB := uH HB hb; (try clear hb)) | (go_at_call 48; (with_reducible refine (spec_l1In.calls a1 0 (l0.length : Int) t329 _ A7.out).mono ?_); rintro e w' ⟨rfl, ⟨nd, rfl⟩⟩))
  go_meet
  case rel => exact ⟨_, (!t329), vD, H', ⟨by first | omega | exact Nat.le_refl _⟩, ⟨by (with_reducible repeat (first | refine uF ?_ _ | refine uE ?_ | refine uD ?_ _)); exact BK327.out⟩, ⟨cq2⟩⟩
 case rest =>
  clear HC3
  obtain ⟨kq, x17_2, rfl, HA, HJ2, BK327, HB⟩ := hcut
  cases kq with
  | zero => exact absurd HA.out (by simp [spec_TakeSnapshot.j0])
  | succ kj2 =>
   have H := HA.out
   clear HA
   simp only [spec_TakeSnapshot.j0] at H
   by_cases c10 : x17_2 = true
   ·subst c10
    try rw [if_pos rfl] at H
    simp only [Option.some.injEq, Prod.mk.injEq] at H
    obtain ⟨rfl, rfl, rfl, rfl, rfl⟩ := H
    obtain ⟨hcz11_0, hcz11_1, hcz11_2, hcz11_3, hfz11_0, hfz11_1, hfz11_2, hfz11_3⟩ := cz4 BK327
    go_wp2
    refine bodyPost_ret (results_ct rfl _ _ gb327 83 #[.int .i64 0, .int .i64 0, .slice none 0 0, .slice none 0 0] (0, 0) _ rfl (by (with_reducible repeat (first | refine uF ?_ _ | refine uE ?_ | refine uD ?_ _)); refine uZ (cs := #[.int .i64 0, .int .i64 0, .slice none 0 0, .slice none 0 0]) ?_ 3 _ rfl; (with_reducible repeat (first | refine uF ?_ _ | refine uE ?_ | refine uD ?_ _)); refine uZ (cs := #[.int .i64 0, .int .i64 0, .slice none 0 0, .slice none 0 0]) ?_ 2 _ rfl; (with_reducible repeat (first | refine uF ?_ _ | refine uE ?_ | refine uD ?_ _)); refine uZ (cs := #[.int .i64 0, .int .i64 0, .slice none 0 0, .slice none 0 0]) ?_ 1 _ rfl; (with_reducible repeat (first | refine uF ?_ _ | refine uE ?_ | refine uD ?_ _)); refine uZ (cs := #[.int .i64 0, .int .i64 0, .slice none 0 0, .slice none 0 0]) ?_ 0 _ rfl; (with_reducible repeat (first | refine uF ?_ _ | refine uE ?_ | refine uD ?_ _)); exact BK327.out) Tryd.underlying83 rfl (by kernel_rfl)) rfl ?_
    exact ⟨_, _, cq5, cq50, cq50, cq2⟩
   replace c10 := Bool.eq_false_iff.mpr c10
   subst c10
   try rw [if_neg (show ¬ (false = true) by decide)] at H
   by_cases c12 : 0 ≤ a1
   rotate_left
   ·rw [if_neg c12] at H
    exact absurd H (by simp)
   rw [if_pos c12] at H
   have c12b0 := eq_true c12
   have c12b1 := decide_eq_true c12
   clear c12
   by_cases c13 : a1 ≤ (l0.length : Int)
   rotate_left
   ·rw [if_neg c13] at H
    exact absurd H (by simp)
   rw [if_pos c13] at H
   have c13b0 := eq_true c13
   have c13b1 := decide_eq_true c13
   clear c13
   obtain ⟨y330, hy330⟩ : ∃ y_ : List (S66), y_ = (l0.take (a1 : Int).toNat) := ⟨_, rfl⟩
   replace H : ((spec_ReplayLog.f kj2 y330).bind fun bt334 => ((spec_DigestOf.f kj2 l0 a1).bind fun t342 => (some (a1, t342, bt334.1, bt334.2.1, true)))) = some (r1, r2, r3, r4, r5) := rpl hy330 H
   have Ny330 := Aside0.mk hy330
   clear hy330
   replace H := Option.bind_eq_some_iff.mp H
   obtain ⟨⟨t334, t337, t340⟩, A140, H⟩ := H
   try dsimp only at H
   have A14 := Aside0.mk A140
   clear A140
   replace H := Option.bind_eq_some_iff.mp H
   obtain ⟨t342, A150, H⟩ := H
   try dsimp only at H
   have A15 := Aside0.mk A150
   clear A150
   simp only [Option.some.injEq, Prod.mk.injEq] at H
   obtain ⟨rfl, rfl, rfl, rfl, rfl⟩ := H
   have q16 : (a1 : Int) ≤ ((l0.length : Int) : Int) := of_decide_eq_true vC
   obtain ⟨i016, hi016, _, hsz16, _⟩ := info_parts info66
   have hroom16 : l0.length ≤ c0 := HC0.out
   have hC16 : Kd.C k66 _ A0 l0.length l0 := HR0.out
   have hcut16 := cut_to (P := Tryd.prog) 24 66 .i64 Tryd.underlying24 hi016 A0 l0.length c0 a1 (of_decide_eq_true vC) q16 hroom16
   have hr16 := Kd.C_take (m := (a1 : Int).toNat) hC16 (by omega)
   have hy16 : y330.length = (a1 : Int).toNat := (by rw [Ny330.out, List.length_take]; omega)
   rw [← Ny330.out] at hr16
   rw [← hy16] at hcut16
   have HR333 := Aside0.mk hr16
   have HC333 := Aside0.mk (show y330.length ≤ c0 from by omega)
   clear hr16 hC16 hroom16 hi016 hsz16
   have KY16 := Aside0.mk hy16
   clear hy16
   replace q16 := eq_true q16
   try go_wp2_with (first | ((with_reducible refine uB (f := 117) rfl ?_); refine uL (some 23) Tryd.func117 #[.slice A0 y330.length c0] ?_; (with_reducible refine (spec_ReplayLog.calls kj2 _ _ y330 t334 t337 t340 _ ?side1 ?side2 A14.out).mono ?_); (case side1 => repeat (first | exact (Kd.vT HR333.out HB.out) | (with_reducible refine Kd.C_alloc ?_ _) | (with_reducible refine Kd.C_drewN ?_ _) | (with_reducible refine Kd.C_drew ?_))); (case side2 => exact HC333.out); rintro e w17 ⟨v335, v338, rfl, ho0, ho1, hb⟩; refine ⟨_, rfl, ?_⟩; have HO336 := Aside0.mk (Kd.uN ho0 (uR cq2)); have HO339 := Aside0.mk (Kd.uN ho1 (uR cq2)); replace BK327 := vI BK327 hb; replace HB := uH HB hb; (try clear hb); (try clear ho0); (try clear ho1)) | ((with_reducible refine uQ (N := 6) rfl ?_); refine bxe 6 #[.slice none 0 0, .slice none 0 0] 56 ?_; intro gb341 hg w18 hbox hb; have BK341 := Aside0.mk (hbox); have GW341 := tGe HB hg; have GE341 := tGe HB hg; have NB327_341 := tNl BK327 hg; have NB341_327 := tNg BK327 hg; replace HO336 := Kd.tR HO336 hb; replace HO339 := Kd.tR HO339 hb; replace BK327 := vI BK327 hb; replace HB := uH HB hb; clear hb hbox hg; obtain ⟨Ao19, co19, eo19⟩ := Kd.uS HO336.out; subst eo19; have hnb20 := NB341_327.out; have hnc20 := NB327_341.out; obtain ⟨hcz21_0, hcz21_1, hfz21_0, hfz21_1⟩ := cz2 BK341; obtain ⟨Ao22, co22, eo22⟩ := Kd.uS HO339.out; subst eo22))
   have n0_ : Aside0 (Kd.R (Kd.int .i64) 3 ((w18.setCell ⟨gb341, 0, none⟩ (.slice Ao19 t334.length co19)).setCell ⟨gb341, 1, none⟩ (.slice Ao22 t337.length co22)) w.heap.size (fun _ => True) (.slice Ao19 t334.length co19) t334) := ⟨by (with_reducible repeat (first | apply Kd.uK | apply Kd.uJ | apply Kd.uO)); exact Kd.uG (Kd.uI (p := ⟨gb341, 1, none⟩) (Kd.uI (p := ⟨gb341, 0, none⟩) (Kd.vE HO336.out BK341.out (by decide)) (fun _ hk => hk.2) (.slice Ao19 t334.length co19)) (fun _ hk => hk.2) (.slice Ao22 t337.length co22)) (fun _ hk => trivial)⟩
   have n1_ : Aside0 (Kd.R k97 97 ((w18.setCell ⟨gb341, 0, none⟩ (.slice Ao19 t334.length co19)).setCell ⟨gb341, 1, none⟩ (.slice Ao22 t337.length co22)) w.heap.size (fun _ => True) (.slice Ao22 t337.length co22) t337) := ⟨by (with_reducible repeat (first | apply Kd.uK | apply Kd.uJ | apply Kd.uO)); exact Kd.uG (Kd.uI (p := ⟨gb341, 1, none⟩) (Kd.uI (p := ⟨gb341, 0, none⟩) (Kd.vE HO339.out BK341.out (by decide)) (fun _ hk => hk.2) (.slice Ao19 t334.length co19)) (fun _ hk => hk.2) (.slice Ao22 t337.length co22)) (fun _ hk => trivial)⟩
   have n2_ : Aside0 (((w18.setCell ⟨gb341, 0, none⟩ (.slice Ao19 t334.length co19)).setCell ⟨gb341, 1, none⟩ (.slice Ao22 t337.length co22)).heap[gb327]? = some (.cells #[.int .i64 0, .int .i64 0, .slice none 0 0, .slice none 0 0] 83 (0, 0))) := ⟨by (with_reducible repeat (first | refine uF ?_ _ | refine uE ?_ | refine uD ?_ _)); refine blk_far ?_ NB327_341.out _; (with_reducible repeat (first | refine uF ?_ _ | refine uE ?_ | refine uD ?_ _)); refine blk_far ?_ NB327_341.out _; (with_reducible repeat (first | refine uF ?_ _ | refine uE ?_ | refine uD ?_ _)); exact BK327.out⟩
   have n3_ : Aside0 (((w18.setCell ⟨gb341, 0, none⟩ (.slice Ao19 t334.length co19)).setCell ⟨gb341, 1, none⟩ (.slice Ao22 t337.length co22)).heap[gb341]? = some (.cells #[.slice Ao19 t334.length co19, .slice Ao22 t337.length co22] 56 (0, 0))) := ⟨by (with_reducible repeat (first | refine uF ?_ _ | refine uE ?_ | refine uD ?_ _)); refine uZ (cs := #[.slice Ao19 t334.length co19, .slice none 0 0]) ?_ 1 _ rfl; (with_reducible repeat (first | refine uF ?_ _ | refine uE ?_ | refine uD ?_ _)); refine uZ (cs := #[.slice none 0 0, .slice none 0 0]) ?_ 0 _ rfl; (with_reducible repeat (first | refine uF ?_ _ | refine uE ?_ | refine uD ?_ _)); exact BK341.out⟩
   have n4_ : Aside0 (Below w.heap.size w ((w18.setCell ⟨gb341, 0, none⟩ (.slice Ao19 t334.length co19)).setCell ⟨gb341, 1, none⟩ (.slice Ao22 t337.length co22))) := ⟨cq2⟩
   generalize ((w18.setCell ⟨gb341, 0, none⟩ (.slice Ao19 t334.length co19)).setCell ⟨gb341, 1, none⟩ (.slice Ao22 t337.length co22)) = w23 at n0_ n1_ n2_ n3_ n4_ ⊢
   have HO336 := n0_
   have HO339 := n1_
   have BK327 := n2_
   have BK341 := n3_
   have HB := n4_
   clear n0_ n1_ n2_ n3_ n4_
   replace HO336 := Aside0.mk (Kd.uO HO336.out)
   replace HO339 := Aside0.mk (Kd.uO HO339.out)
   replace BK327 := Aside0.mk (uE BK327.out)
   replace BK341 := Aside0.mk (uE BK341.out)
   replace HB := Aside0.mk (vL HB.out)
   refine start_ (n := 8) (S := fun w' => w'.cell? ⟨gb341, 0, none⟩ = some (.slice Ao19 t334.length co19) ∧ w'.cell? ⟨gb341, 1, none⟩ = some (.slice Ao22 t337.length co22)) (ds := []) #[false, false, false, false, false, false, false, false] (by kernel_rfl) rfl rfl ⟨(uC BK341.out 0).trans rfl, (uC BK341.out 1).trans rfl⟩ (fun hHeld => ?_); refine with_tabW spec_TakeSnapshot.tab4 spec_TakeSnapshot.bits4 (fun HT_ HW_ => ?_)
   generalize w23.drew = w24 at HO336 HO339 BK327 BK341 HB hHeld ⊢
   refine uM 0 (some 26) #[true, false, false, false, false, false, false, false] ?_
   refine uM 1 (some 27) #[true, true, false, false, false, false, false, false] ?_
   refine uM 2 (some 28) #[true, true, true, false, false, false, false, false] ?_
   refine takeT 4 (some 30) #[true, true, true, false, true, false, false, false] ?_
   refine oneT 3 (some 29) #[true, true, true, true, true, false, false, false] (fun K hK => ?_)
   refine goesT Tryd.func20 #[.slice A0 l0.length c0, .int .i64 a1] ?_
   with_reducible refine (spec_DigestOf.calls kj2 _ _ l0 a1 t342 _ ?side1 ?side2 A15.out).mono ?_
   (case side1 => exact cq12)
   (case side2 => exact HC0.out)
   rintro e w25 ⟨rfl, hb⟩
   refine ⟨_, rfl, ?_⟩
   replace HO336 := Kd.tR HO336 hb
   replace HO339 := Kd.tR HO339 hb
   replace BK327 := vI BK327 hb
   replace BK341 := vI BK341 hb
   replace HB := uH HB hb
   (try clear hb)
   refine hK.out _ _ ⟨(uC BK341.out 0).trans rfl, (uC BK341.out 1).trans rfl⟩ (fun hHeld => ?_)
   clear hK K
   refine vH (some 29) ?_
   refine uM 5 (some 31) #[true, true, true, true, true, true, false, false] ?_
   refine one_ (i := 6) (N := none) #[true, true, true, true, true, true, true, false] rfl rfl (one_of HT_.out (by kernel_rfl)) (by decide) (fun K hK => ?_)
   have hs26 : w25.cell? ⟨gb327, 0, none⟩ = some (.int .i64 0) := (uC BK327.out 0).trans rfl
   have hfs26 := vQ BK327.out 0
   have hns26_1 := NB341_327.out
   have hms26_1 := NB327_341.out
   have hs27 : w25.cell? ⟨gb327, 1, none⟩ = some (.int .i64 0) := (uC BK327.out 1).trans rfl
   have hfs27 := vQ BK327.out 1
   have hns27_1 := NB341_327.out
   have hms27_1 := NB327_341.out
   have hs28 : w25.cell? ⟨gb327, 2, none⟩ = some (.slice none 0 0) := (uC BK327.out 2).trans rfl
   have hfs28 := vQ BK327.out 2
   have hns28_1 := NB341_327.out
   have hms28_1 := NB327_341.out
   have hs29 : w25.cell? ⟨gb327, 3, none⟩ = some (.slice none 0 0) := (uC BK327.out 3).trans rfl
   have hfs29 := vQ BK327.out 3
   have hns29_1 := NB341_327.out
   have hms29_1 := NB327_341.out
   refine skip_ (w1 := ?_) (by rfl) rfl ?_ ?_
   rotate_left
   ·go_simp
    rfl
   refine hK.out _ _ ⟨((cell_far (p := ⟨gb327, _, none⟩) NB341_327.out _).trans (((cell_far (p := ⟨gb327, _, none⟩) NB341_327.out _).trans (((cell_far (p := ⟨gb327, _, none⟩) NB341_327.out _).trans (((cell_far (p := ⟨gb327, _, none⟩) NB341_327.out _).trans (hHeld.1)))))))), ((cell_far (p := ⟨gb327, _, none⟩) NB341_327.out _).trans (((cell_far (p := ⟨gb327, _, none⟩) NB341_327.out _).trans (((cell_far (p := ⟨gb327, _, none⟩) NB341_327.out _).trans (((cell_far (p := ⟨gb327, _, none⟩) NB341_327.out _).trans (hHeld.2))))))))⟩ (fun hHeld => ?_)
   clear hK K
   refine uM 7 (some 5) #[true, true, true, true, true, true, true, true] ?_
   refine done_ (done_of HT_.out (by kernel_rfl)) ?_
   try go_wp2
   refine bodyPost_ret (results_ct rfl _ _ gb327 83 #[.int .i64 a1, .int .i64 t342, .slice Ao19 t334.length co19, .slice Ao22 t337.length co22] (0, 0) _ rfl (by (with_reducible repeat (first | refine uF ?_ _ | refine uE ?_ | refine uD ?_ _)); refine uZ (cs := #[.int .i64 a1, .int .i64 t342, .slice Ao19 t334.length co19, .slice none 0 0]) ?_ 3 _ rfl; (with_reducible repeat (first | refine uF ?_ _ | refine uE ?_ | refine uD ?_ _)); refine uZ (cs := #[.int .i64 a1, .int .i64 t342, .slice none 0 0, .slice none 0 0]) ?_ 2 _ rfl; (with_reducible repeat (first | refine uF ?_ _ | refine uE ?_ | refine uD ?_ _)); refine uZ (cs := #[.int .i64 a1, .int .i64 0, .slice none 0 0, .slice none 0 0]) ?_ 1 _ rfl; (with_reducible repeat (first | refine uF ?_ _ | refine uE ?_ | refine uD ?_ _)); refine uZ (cs := #[.int .i64 0, .int .i64 0, .slice none 0 0, .slice none 0 0]) ?_ 0 _ rfl; (with_reducible repeat (first | refine uF ?_ _ | refine uE ?_ | refine uD ?_ _)); exact BK327.out) Tryd.underlying83 rfl (by kernel_rfl)) rfl ?_
   exact ⟨_, _, cq5, by (with_reducible repeat (first | apply Kd.uK | apply Kd.uJ | apply Kd.uO)); exact Kd.uG (Kd.uI (p := ⟨gb327, 3, none⟩) (Kd.uI (p := ⟨gb327, 2, none⟩) (Kd.uI (p := ⟨gb327, 1, none⟩) (Kd.uI (p := ⟨gb327, 0, none⟩) (Kd.vE HO336.out BK327.out (by decide)) (fun _ hk => hk.2) (.int .i64 a1)) (fun _ hk => hk.2) (.int .i64 t342)) (fun _ hk => hk.2) (.slice Ao19 t334.length co19)) (fun _ hk => hk.2) (.slice Ao22 t337.length co22)) (fun _ hk => trivial), by (with_reducible repeat (first | apply Kd.uK | apply Kd.uJ | apply Kd.uO)); exact Kd.uG (Kd.uI (p := ⟨gb327, 3, none⟩) (Kd.uI (p := ⟨gb327, 2, none⟩) (Kd.uI (p := ⟨gb327, 1, none⟩) (Kd.uI (p := ⟨gb327, 0, none⟩) (Kd.vE HO339.out BK327.out (by decide)) (fun _ hk => hk.2) (.int .i64 a1)) (fun _ hk => hk.2) (.int .i64 t342)) (fun _ hk => hk.2) (.slice Ao19 t334.length co19)) (fun _ hk => hk.2) (.slice Ao22 t337.length co22)) (fun _ hk => trivial), cq2⟩

end Go.Proofs.YtcikahnmiiichaaDoor.K
