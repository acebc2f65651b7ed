/- Go functions as Lean functions, and the proof that the code comes to them: written by a program of this session out of the translation. -/
import Derived.Test.YtcikahnmiiichaaN0
import Derived.Test.YtcikahnmiiichaaN1
import Derived.Test.YtcikahnmiiichaaN4
import Derived.Test.YtcikahnmiiichaaN9
import Derived.Test.YtcikahnmiiichaaN10
import Derived.Test.YtcikahnmiiichaaN15
import Derived.Test.YtcikahnmiiichaaN16
import Derived.Test.YtcikahnmiiichaaN18
import Derived.Test.YtcikahnmiiichaaN19
import Derived.Test.YtcikahnmiiichaaN20
namespace Go.Proofs.Ytcikahnmiiichaa.N
open List renaming setIfInBounds_toArray → yA, set_cons_zero → yB, set_cons_succ → yC, map_toArray → yD
open Go.World renaming block_lt_of_cell? → yG
open Go.RowKit Go.Proofs.YtcikahnmiiichaaW.PrintWords Go.Proofs.YtcikahnmiiichaaW.PrintLast Go.Proofs.YtcikahnmiiichaaW.PrintMore
attribute [local go_sem] max2_int min2_int max_two min_two vX vY max_four min_four   -- for this text's walks alone
set_option linter.unusedVariables false
set_option linter.unusedSimpArgs false

attribute [local go_sem high] eqA33
/-! ### laws_FnLogs: function 7 -/
mutual
def laws_FnLogs.j0 : Nat → List Int → Bool → Option (Bool)
  | 0, _, _ => none
  | k + 1, x0, x73 => if x73 = true then (some false) else ((spec_DrawResultAt.f k x0).bind fun bt560 => ((impl_ResultAt.f k bt560.1 bt560.2).bind fun bt564 => ((spec_ResultAt.f k bt560.1 bt560.2).bind fun bt568 => ((impl_ReplayLog.f k bt560.1).bind fun bt572 => ((spec_ReplayLog.f k bt560.1).bind fun bt580 => (if (bt564.2.2 != bt568.2.2) = true then (laws_FnLogs.j1 k x0 true) else (if (!(bt564.1 == bt568.1) || (!(bt564.2.1 == bt568.2.1))) = true then (laws_FnLogs.j1 k x0 true) else (if (bt572.2.2 != bt580.2.2) = true then (laws_FnLogs.j1 k x0 true) else ((impl_EqualMachines.f k bt572.1 bt572.2.1 bt580.1 bt580.2.1).bind fun t588 => (laws_FnLogs.j1 k x0 (!t588)))))))))))
def laws_FnLogs.j1 : Nat → List Int → Bool → Option (Bool)
  | 0, _, _ => none
  | k + 1, x0, x119 => if x119 = true then (some false) else ((spec_DrawAppendEntry.f k x0).bind fun bt589 => ((impl_AppendEntry.f k bt589.1 bt589.2.1 bt589.2.2.1 bt589.2.2.2.1 bt589.2.2.2.2.1 bt589.2.2.2.2.2.1 bt589.2.2.2.2.2.2.1 bt589.2.2.2.2.2.2.2).bind fun bt600 => ((spec_AppendEntry.f k bt589.1 bt589.2.1 bt589.2.2.1 bt589.2.2.2.1 bt589.2.2.2.2.1 bt589.2.2.2.2.2.1 bt589.2.2.2.2.2.2.1 bt589.2.2.2.2.2.2.2).bind fun bt604 => (if (bt600.2 == bt604.2) = true then (if (bt600.1.length : Int) = (bt604.1.length : Int) then ((impl_IsPrefix.f k bt600.1 bt604.1).bind fun t608 => (if t608 = true then (if bt600.2 = true then ((impl_IsLog.f k bt600.1).bind fun t609 => (if t609 = true then ((impl_IsPrefix.f k bt589.1 bt600.1).bind fun t610 => (some t610)) else (some false))) else (some true)) else (some false))) else (some false)) else (some false)))))
end
def laws_FnLogs.f (k : Nat) (l0 : List Int) : Option (Bool) := (laws_big.f l0).bind fun t544 => (if t544 = true then (some true) else ((spec_DrawCommonPrefix.f k l0).bind fun bt545 => ((impl_CommonPrefix.f k bt545.1 bt545.2).bind fun t551 => ((spec_CommonPrefix.f k bt545.1 bt545.2).bind fun t552 => (if t551 = t552 then ((impl_CommonPrefix.f k bt545.2 bt545.1).bind fun t553 => (if t551 = t553 then (if t551 > (bt545.1.length : Int) then (laws_FnLogs.j0 k l0 true) else (if t551 > (bt545.2.length : Int) then (laws_FnLogs.j0 k l0 true) else (if 0 ≤ t551 then (if t551 ≤ (bt545.1.length : Int) then ((impl_IsPrefix.f k (bt545.1.take (t551 : Int).toNat) bt545.2).bind fun t558 => (if t558 = true then ((impl_IsPrefix.f k bt545.1 bt545.2).bind fun t559 => (laws_FnLogs.j0 k l0 (t559 != (t551 == (bt545.1.length : Int))))) else (laws_FnLogs.j0 k l0 true))) else (none)) else (none)))) else (laws_FnLogs.j0 k l0 true))) else (laws_FnLogs.j0 k l0 true))))))
theorem laws_FnLogs.mono_l : ∀ k, (∀ y0 y1, uI (laws_FnLogs.j0 k y0 y1) (laws_FnLogs.j0 (k + 1) y0 y1)) ∧ (∀ y0 y1, uI (laws_FnLogs.j1 k y0 y1) (laws_FnLogs.j1 (k + 1) y0 y1))
  | 0 => ⟨fun _ _ r h => by simp [laws_FnLogs.j0] at h, fun _ _ r h => by simp [laws_FnLogs.j1] at h⟩
  | k + 1 => by
    obtain ⟨ih0, ih1⟩ := laws_FnLogs.mono_l k
    refine ⟨?_, ?_⟩
    · intro y0 y1
      unfold laws_FnLogs.j0
      repeat' first
      | (with_reducible exact ih0 _ _)
      | (with_reducible exact ih1 _ _)
      | (with_reducible exact impl_AppendEntry.mono _ _ _ _ _ _ _ _ _)
      | (with_reducible exact impl_CommonPrefix.mono _ _ _)
      | (with_reducible exact impl_EqualMachines.mono _ _ _ _ _)
      | (with_reducible exact impl_IsLog.mono _ _)
      | (with_reducible exact impl_IsPrefix.mono _ _ _)
      | (with_reducible exact impl_ReplayLog.mono _ _)
      | (with_reducible exact impl_ResultAt.mono _ _ _)
      | (with_reducible exact spec_AppendEntry.mono _ _ _ _ _ _ _ _ _)
      | (with_reducible exact spec_CommonPrefix.mono _ _ _)
      | (with_reducible exact spec_DrawAppendEntry.mono _ _)
      | (with_reducible exact spec_DrawCommonPrefix.mono _ _)
      | (with_reducible exact spec_DrawResultAt.mono _ _)
      | (with_reducible exact spec_ReplayLog.mono _ _)
      | (with_reducible exact spec_ResultAt.mono _ _ _)
      | (with_reducible exact uI.refl _)
      | (with_reducible exact uI.none _)
      | (with_reducible refine uI.ite ?_ ?_)
      | (with_reducible refine uI.bind ?_ (fun _ => ?_))
      | exact ih0 _ _
      | exact ih1 _ _
      | exact uI.none _
      | refine uI.ite ?_ ?_
      | refine uI.bind ?_ (fun _ => ?_)
    intro y0 y1
    unfold laws_FnLogs.j1
    repeat' first
    | (with_reducible exact ih0 _ _)
    | (with_reducible exact ih1 _ _)
    | (with_reducible exact impl_AppendEntry.mono _ _ _ _ _ _ _ _ _)
    | (with_reducible exact impl_CommonPrefix.mono _ _ _)
    | (with_reducible exact impl_EqualMachines.mono _ _ _ _ _)
    | (with_reducible exact impl_IsLog.mono _ _)
    | (with_reducible exact impl_IsPrefix.mono _ _ _)
    | (with_reducible exact impl_ReplayLog.mono _ _)
    | (with_reducible exact impl_ResultAt.mono _ _ _)
    | (with_reducible exact spec_AppendEntry.mono _ _ _ _ _ _ _ _ _)
    | (with_reducible exact spec_CommonPrefix.mono _ _ _)
    | (with_reducible exact spec_DrawAppendEntry.mono _ _)
    | (with_reducible exact spec_DrawCommonPrefix.mono _ _)
    | (with_reducible exact spec_DrawResultAt.mono _ _)
    | (with_reducible exact spec_ReplayLog.mono _ _)
    | (with_reducible exact spec_ResultAt.mono _ _ _)
    | (with_reducible exact uI.refl _)
    | (with_reducible exact uI.none _)
    | (with_reducible refine uI.ite ?_ ?_)
    | (with_reducible refine uI.bind ?_ (fun _ => ?_))
    | exact ih0 _ _
    | exact ih1 _ _
    | exact uI.none _
    | refine uI.ite ?_ ?_
    | refine uI.bind ?_ (fun _ => ?_)
theorem laws_FnLogs.mono : ∀ a0 k, uI (laws_FnLogs.f k a0) (laws_FnLogs.f (k + 1) a0) := by
  intro a0 k
  obtain ⟨ih0, ih1⟩ := laws_FnLogs.mono_l k
  unfold laws_FnLogs.f
  repeat' first
      | (with_reducible exact ih0 _ _)
      | (with_reducible exact ih1 _ _)
      | (with_reducible exact impl_AppendEntry.mono _ _ _ _ _ _ _ _ _)
      | (with_reducible exact impl_CommonPrefix.mono _ _ _)
      | (with_reducible exact impl_EqualMachines.mono _ _ _ _ _)
      | (with_reducible exact impl_IsLog.mono _ _)
      | (with_reducible exact impl_IsPrefix.mono _ _ _)
      | (with_reducible exact impl_ReplayLog.mono _ _)
      | (with_reducible exact impl_ResultAt.mono _ _ _)
      | (with_reducible exact spec_AppendEntry.mono _ _ _ _ _ _ _ _ _)
      | (with_reducible exact spec_CommonPrefix.mono _ _ _)
      | (with_reducible exact spec_DrawAppendEntry.mono _ _)
      | (with_reducible exact spec_DrawCommonPrefix.mono _ _)
      | (with_reducible exact spec_DrawResultAt.mono _ _)
      | (with_reducible exact spec_ReplayLog.mono _ _)
      | (with_reducible exact spec_ResultAt.mono _ _ _)
      | (with_reducible exact uI.refl _)
      | (with_reducible exact uI.none _)
      | (with_reducible refine uI.ite ?_ ?_)
      | (with_reducible refine uI.bind ?_ (fun _ => ?_))
      | exact ih0 _ _
      | exact ih1 _ _
      | exact uI.none _
      | refine uI.ite ?_ ?_
      | refine uI.bind ?_ (fun _ => ?_)
set_option maxHeartbeats 8000000 in
set_option maxRecDepth 100000 in
theorem laws_FnLogs.calls (k : Nat) (A0 : Option Addr) (c0 : Nat) (l0 : List Int) (w : World) (hr0 : Kd.C (Kd.int .u8) w A0 l0.length l0) (hc0 : l0.length ≤ c0) (h : laws_FnLogs.f k l0 = some true) :
    Calls Try.prog 7 #[.slice A0 l0.length c0] w fun e w' => e = .returned (.bool true) ∧ Below w.heap.size w w' := by
  have hu33 := Try.underlying33
  have hu31 := Try.underlying31
  have hu72 := Try.underlying72
  have HR0 := Aside0.mk hr0
  have HC0 := Aside0.mk hc0
  clear hr0 hc0
  have HB := Aside0.mk (Below.refl w.heap.size w)
  have H : ((laws_big.f l0).bind fun t544 => (if t544 = true then (some true) else ((spec_DrawCommonPrefix.f k l0).bind fun bt545 => ((impl_CommonPrefix.f k bt545.1 bt545.2).bind fun t551 => ((spec_CommonPrefix.f k bt545.1 bt545.2).bind fun t552 => (if t551 = t552 then ((impl_CommonPrefix.f k bt545.2 bt545.1).bind fun t553 => (if t551 = t553 then (if t551 > (bt545.1.length : Int) then (laws_FnLogs.j0 k l0 true) else (if t551 > (bt545.2.length : Int) then (laws_FnLogs.j0 k l0 true) else (if 0 ≤ t551 then (if t551 ≤ (bt545.1.length : Int) then ((impl_IsPrefix.f k (bt545.1.take (t551 : Int).toNat) bt545.2).bind fun t558 => (if t558 = true then ((impl_IsPrefix.f k bt545.1 bt545.2).bind fun t559 => (laws_FnLogs.j0 k l0 (t559 != (t551 == (bt545.1.length : Int))))) else (laws_FnLogs.j0 k l0 true))) else (none)) else (none)))) else (laws_FnLogs.j0 k l0 true))) else (laws_FnLogs.j0 k l0 true))))))) = some true := h
  clear h
  replace H := Option.bind_eq_some_iff.mp H
  obtain ⟨t544, A20, H⟩ := H
  try dsimp only at H
  have A2 := Aside0.mk A20
  clear A20
  by_cases c3 : t544 = true
  · subst c3
    try rw [if_pos rfl] at H
    go_enter Try.func7, Try.ntmps7
    go_wp2_with (first | ((with_reducible refine uF (f := 17) rfl ?_); refine uX (some 23) Try.func17 #[.slice A0 l0.length c0] ?_; (with_reducible refine (laws_big.calls _ _ l0 true _ ?side1 ?side2 A2.out).mono ?_); (case side1 => exact cq64); (case side2 => exact HC0.out); rintro e w' ⟨rfl, ⟨nd, rfl⟩⟩; refine ⟨_, rfl, ?_⟩))
    go_ret
    exact ⟨cq3, cq9⟩
  replace c3 := Bool.eq_false_iff.mpr c3
  subst c3
  try rw [if_neg (show ¬ (false = true) by decide)] at H
  replace H := Option.bind_eq_some_iff.mp H
  obtain ⟨⟨t545, t546⟩, A40, H⟩ := H
  try dsimp only at H
  have A4 := Aside0.mk A40
  clear A40
  replace H := Option.bind_eq_some_iff.mp H
  obtain ⟨t551, A50, H⟩ := H
  try dsimp only at H
  have A5 := Aside0.mk A50
  clear A50
  have HC6 := Aside0.mk H
  clear H
  go_enter Try.func7, Try.ntmps7
  go_upto_region 5 with (first | ((with_reducible refine uF (f := 17) rfl ?_); refine uX (some 23) Try.func17 #[.slice A0 l0.length c0] ?_; (with_reducible refine (laws_big.calls _ _ l0 false _ ?side1 ?side2 A2.out).mono ?_); (case side1 => exact cq64); (case side2 => exact HC0.out); rintro e w' ⟨rfl, ⟨nd, rfl⟩⟩; refine ⟨_, rfl, ?_⟩) | ((with_reducible refine uF (f := 33) rfl ?_); refine uX (some 26) Try.func33 #[.slice A0 l0.length c0] ?_; (with_reducible refine (spec_DrawCommonPrefix.calls k _ _ l0 t545 t546 _ ?side1 ?side2 A4.out).mono ?_); (case side1 => exact cq64); (case side2 => exact HC0.out); rintro e w7 ⟨v547, v549, rfl, ho0, ho1, hb⟩; refine ⟨_, rfl, ?_⟩; have HO548 := Aside0.mk (Kd.uS ho0 (uO cq9)); have HO550 := Aside0.mk (Kd.uS ho1 (uO cq9)); replace HB := vB HB hb; (try clear hb); (try clear ho0); (try clear ho1); obtain ⟨Ao8, co8, eo8⟩ := Kd.uY HO548.out; subst eo8; obtain ⟨Ao9, co9, eo9⟩ := Kd.uY HO550.out; subst eo9) | ((with_reducible refine uF (f := 34) rfl ?_); refine uX (some 31) Try.func34 #[.slice Ao8 t545.length co8, .slice Ao9 t546.length co9] ?_; (with_reducible refine (impl_CommonPrefix.calls k _ _ t545 _ _ t546 t551 _ ?side1 ?side2 ?side3 ?side4 A5.out).mono ?_); (case side1 => exact cq21); (case side2 => exact (Kd.uK HO548.out).2.1); (case side3 => exact cq19); (case side4 => exact (Kd.uK HO550.out).2.1); rintro e w' ⟨rfl, ⟨nd, rfl⟩⟩; refine ⟨_, rfl, ?_⟩))
  (try simp only [Act.put, yA, yB, yC])
  go_cut [73] (fun v73 wc => ∃ (kq : Nat) (x73_5 : Bool), v73 = .bool x73_5 ∧ Aside0 (laws_FnLogs.j0 kq l0 x73_5 = some true) ∧ Aside0 (kq ≤ k) ∧ Aside0 (Below w.heap.size w wc))
  case first =>
    have H := HC6.out
    clear HC6
    replace H := Option.bind_eq_some_iff.mp H
    obtain ⟨t552, A100, H⟩ := H
    try dsimp only at H
    have A10 := Aside0.mk A100
    clear A100
    by_cases c11 : t551 = t552
    rotate_left
    · rw [if_neg c11] at H
      have c11b0 := beq_eq_false_iff_ne.mpr c11
      have c11b1 := bne_iff_ne.mpr c11
      (first | rw [c11b0] | (simp only [vQ, vU]; rw [c11b0]) | skip)
      have H' := Aside0.mk H
      clear H
      go_wp2_with (first | ((with_reducible refine uF (f := 35) rfl ?_); refine uX (some 35) Try.func35 #[.slice Ao8 t545.length co8, .slice Ao9 t546.length co9] ?_; (with_reducible refine (spec_CommonPrefix.calls k _ _ t545 _ _ t546 t552 _ ?side1 ?side2 ?side3 ?side4 A10.out).mono ?_); (case side1 => exact cq21); (case side2 => exact (Kd.uK HO548.out).2.1); (case side3 => exact cq19); (case side4 => exact (Kd.uK HO550.out).2.1); rintro e w' ⟨rfl, ⟨nd, rfl⟩⟩; refine ⟨_, rfl, ?_⟩))
      go_meet
      case rel => exact ⟨_, (true), cq15, H', ⟨by first | omega | exact Nat.le_refl _⟩, ⟨cq9⟩⟩
    rw [if_pos c11] at H
    have c11b0 := beq_iff_eq.mpr c11
    have c11b1 := bne_eq_false_iff_eq.mpr c11
    clear c11
    (first | rw [c11b0] | (simp only [vQ, vU]; rw [c11b0]) | skip)
    replace H := Option.bind_eq_some_iff.mp H
    obtain ⟨t553, A120, H⟩ := H
    try dsimp only at H
    have A12 := Aside0.mk A120
    clear A120
    by_cases c13 : t551 = t553
    rotate_left
    · rw [if_neg c13] at H
      have c13b0 := beq_eq_false_iff_ne.mpr c13
      have c13b1 := bne_iff_ne.mpr c13
      have H' := Aside0.mk H
      clear H
      go_wp2_with (first | ((with_reducible refine uF (f := 35) rfl ?_); refine uX (some 35) Try.func35 #[.slice Ao8 t545.length co8, .slice Ao9 t546.length co9] ?_; (with_reducible refine (spec_CommonPrefix.calls k _ _ t545 _ _ t546 t552 _ ?side1 ?side2 ?side3 ?side4 A10.out).mono ?_); (case side1 => exact cq21); (case side2 => exact (Kd.uK HO548.out).2.1); (case side3 => exact cq19); (case side4 => exact (Kd.uK HO550.out).2.1); rintro e w' ⟨rfl, ⟨nd, rfl⟩⟩; refine ⟨_, rfl, ?_⟩) | (go_at_call 34; (with_reducible refine (impl_CommonPrefix.calls k _ _ t546 _ _ t545 t553 _ ?side1 ?side2 ?side3 ?side4 A12.out).mono ?_); (case side1 => exact cq19); (case side2 => exact (Kd.uK HO550.out).2.1); (case side3 => exact cq21); (case side4 => exact (Kd.uK HO548.out).2.1); rintro e w' ⟨rfl, ⟨nd, rfl⟩⟩))
      go_meet
      case rel => exact ⟨_, (true), cq15, H', ⟨by first | omega | exact Nat.le_refl _⟩, ⟨cq9⟩⟩
    rw [if_pos c13] at H
    have c13b0 := beq_iff_eq.mpr c13
    have c13b1 := bne_eq_false_iff_eq.mpr c13
    clear c13
    by_cases c14 : t551 > (t545.length : Int)
    · rw [if_pos c14] at H
      have c14b0 := decide_eq_true c14
      clear c14
      have H' := Aside0.mk H
      clear H
      go_wp2_with (first | ((with_reducible refine uF (f := 35) rfl ?_); refine uX (some 35) Try.func35 #[.slice Ao8 t545.length co8, .slice Ao9 t546.length co9] ?_; (with_reducible refine (spec_CommonPrefix.calls k _ _ t545 _ _ t546 t552 _ ?side1 ?side2 ?side3 ?side4 A10.out).mono ?_); (case side1 => exact cq21); (case side2 => exact (Kd.uK HO548.out).2.1); (case side3 => exact cq19); (case side4 => exact (Kd.uK HO550.out).2.1); rintro e w' ⟨rfl, ⟨nd, rfl⟩⟩; refine ⟨_, rfl, ?_⟩) | (go_at_call 34; (with_reducible refine (impl_CommonPrefix.calls k _ _ t546 _ _ t545 t553 _ ?side1 ?side2 ?side3 ?side4 A12.out).mono ?_); (case side1 => exact cq19); (case side2 => exact (Kd.uK HO550.out).2.1); (case side3 => exact cq21); (case side4 => exact (Kd.uK HO548.out).2.1); rintro e w' ⟨rfl, ⟨nd, rfl⟩⟩))
      go_meet
      case rel => exact ⟨_, (true), cq15, H', ⟨by first | omega | exact Nat.le_refl _⟩, ⟨cq9⟩⟩
    rw [if_neg c14] at H
    have c14b0 := decide_eq_false c14
    clear c14
    by_cases c15 : t551 > (t546.length : Int)
    · rw [if_pos c15] at H
      have c15b0 := decide_eq_true c15
      clear c15
      have H' := Aside0.mk H
      clear H
      go_wp2_with (first | ((with_reducible refine uF (f := 35) rfl ?_); refine uX (some 35) Try.func35 #[.slice Ao8 t545.length co8, .slice Ao9 t546.length co9] ?_; (with_reducible refine (spec_CommonPrefix.calls k _ _ t545 _ _ t546 t552 _ ?side1 ?side2 ?side3 ?side4 A10.out).mono ?_); (case side1 => exact cq21); (case side2 => exact (Kd.uK HO548.out).2.1); (case side3 => exact cq19); (case side4 => exact (Kd.uK HO550.out).2.1); rintro e w' ⟨rfl, ⟨nd, rfl⟩⟩; refine ⟨_, rfl, ?_⟩) | (go_at_call 34; (with_reducible refine (impl_CommonPrefix.calls k _ _ t546 _ _ t545 t553 _ ?side1 ?side2 ?side3 ?side4 A12.out).mono ?_); (case side1 => exact cq19); (case side2 => exact (Kd.uK HO550.out).2.1); (case side3 => exact cq21); (case side4 => exact (Kd.uK HO548.out).2.1); rintro e w' ⟨rfl, ⟨nd, rfl⟩⟩))
      go_meet
      case rel => exact ⟨_, (true), cq15, H', ⟨by first | omega | exact Nat.le_refl _⟩, ⟨cq9⟩⟩
    rw [if_neg c15] at H
    have c15b0 := decide_eq_false c15
    clear c15
    by_cases c16 : 0 ≤ t551
    rotate_left
    · rw [if_neg c16] at H
      exact absurd H (by simp)
    rw [if_pos c16] at H
    have c16b0 := eq_true c16
    have c16b1 := decide_eq_true c16
    clear c16
    by_cases c17 : t551 ≤ (t545.length : Int)
    rotate_left
    · rw [if_neg c17] at H
      exact absurd H (by simp)
    rw [if_pos c17] at H
    have c17b0 := eq_true c17
    have c17b1 := decide_eq_true c17
    clear c17
    obtain ⟨y554, hy554⟩ : ∃ y_ : List (S72), y_ = (t545.take (t551 : Int).toNat) := ⟨_, rfl⟩
    replace H : ((impl_IsPrefix.f k y554 t546).bind fun t558 => (if t558 = true then ((impl_IsPrefix.f k t545 t546).bind fun t559 => (laws_FnLogs.j0 k l0 (t559 != (t551 == (t545.length : Int))))) else (laws_FnLogs.j0 k l0 true))) = some true := rpl hy554 H
    have Ny554 := Aside0.mk hy554
    clear hy554
    replace H := Option.bind_eq_some_iff.mp H
    obtain ⟨t558, A180, H⟩ := H
    try dsimp only at H
    have A18 := Aside0.mk A180
    clear A180
    go_wp2_with (first | ((with_reducible refine uF (f := 35) rfl ?_); refine uX (some 35) Try.func35 #[.slice Ao8 t545.length co8, .slice Ao9 t546.length co9] ?_; (with_reducible refine (spec_CommonPrefix.calls k _ _ t545 _ _ t546 t552 _ ?side1 ?side2 ?side3 ?side4 A10.out).mono ?_); (case side1 => exact cq21); (case side2 => exact (Kd.uK HO548.out).2.1); (case side3 => exact cq19); (case side4 => exact (Kd.uK HO550.out).2.1); rintro e w' ⟨rfl, ⟨nd, rfl⟩⟩; refine ⟨_, rfl, ?_⟩; refine ?roundEnd))
    case roundEnd =>
    by_cases c19 : t558 = true
    rotate_left
    · replace c19 := Bool.eq_false_iff.mpr c19
      subst c19
      try rw [if_neg (show ¬ (false = true) by decide)] at H
      have H' := Aside0.mk H
      clear H
      go_wp2_with (first | (go_at_call 34; (with_reducible refine (impl_CommonPrefix.calls k _ _ t546 _ _ t545 t553 _ ?side1 ?side2 ?side3 ?side4 A12.out).mono ?_); (case side1 => exact cq19); (case side2 => exact (Kd.uK HO550.out).2.1); (case side3 => exact cq21); (case side4 => exact (Kd.uK HO548.out).2.1); rintro e w' ⟨rfl, ⟨nd, rfl⟩⟩; have q22 : (t551 : Int) ≤ ((t545.length : Int) : Int) := of_decide_eq_true cq12; obtain ⟨i022, hi022, _, hsz22, _⟩ := info_parts info72; have hroom22 : t545.length ≤ co8 := (Kd.uK HO548.out).2.1; have hC22 : Kd.C k72 _ Ao8 t545.length t545 := (Kd.uK HO548.out).2.2; have hcut22 := cut_to (P := Try.prog) 58 72 .i64 Try.underlying58 hi022 Ao8 t545.length co8 t551 (of_decide_eq_true cq12) q22 hroom22; have hr22 := Kd.C_take (m := (t551 : Int).toNat) hC22 (by omega); have hy22 : y554.length = (t551 : Int).toNat := (by rw [Ny554.out, List.length_take]; omega); rw [← Ny554.out] at hr22; rw [← hy22] at hcut22; have HR557 := Aside0.mk hr22; have HC557 := Aside0.mk (show y554.length ≤ co8 from by omega); clear hr22 hC22 hroom22 hi022 hsz22; have KY22 := Aside0.mk hy22; clear hy22; have KL22 := Aside0.mk (show (t551 : Int).toNat ≤ t545.length from by omega); replace q22 := eq_true q22) | (go_at_call 36; (with_reducible refine (impl_IsPrefix.calls k _ _ y554 _ _ t546 false _ ?side1 ?side2 ?side3 ?side4 A18.out).mono ?_); (case side1 => repeat (first | exact (by repeat (first | (with_reducible exact HR557.out) | (with_reducible refine Kd.vW ?_ _) | (with_reducible refine Kd.vV ?_ _) | (with_reducible refine Kd.C_drew ?_) | exact HR557.out)) | (with_reducible refine Kd.vW ?_ _) | (with_reducible refine Kd.vV ?_ _) | (with_reducible refine Kd.C_drew ?_))); (case side2 => exact HC557.out); (case side3 => exact cq19); (case side4 => exact (Kd.uK HO550.out).2.1); rintro e w' ⟨rfl, ⟨nd, rfl⟩⟩))
      go_meet
      case rel => exact ⟨_, (true), cq15, H', ⟨by first | omega | exact Nat.le_refl _⟩, ⟨cq9⟩⟩
    subst c19
    try rw [if_pos rfl] at H
    replace H := Option.bind_eq_some_iff.mp H
    obtain ⟨t559, A200, H⟩ := H
    try dsimp only at H
    have A20 := Aside0.mk A200
    clear A200
    have H' := Aside0.mk H
    clear H
    go_wp2_with (first | (go_at_call 34; (with_reducible refine (impl_CommonPrefix.calls k _ _ t546 _ _ t545 t553 _ ?side1 ?side2 ?side3 ?side4 A12.out).mono ?_); (case side1 => exact cq19); (case side2 => exact (Kd.uK HO550.out).2.1); (case side3 => exact cq21); (case side4 => exact (Kd.uK HO548.out).2.1); rintro e w' ⟨rfl, ⟨nd, rfl⟩⟩; have q21 : (t551 : Int) ≤ ((t545.length : Int) : Int) := of_decide_eq_true cq12; obtain ⟨i021, hi021, _, hsz21, _⟩ := info_parts info72; have hroom21 : t545.length ≤ co8 := (Kd.uK HO548.out).2.1; have hC21 : Kd.C k72 _ Ao8 t545.length t545 := (Kd.uK HO548.out).2.2; have hcut21 := cut_to (P := Try.prog) 58 72 .i64 Try.underlying58 hi021 Ao8 t545.length co8 t551 (of_decide_eq_true cq12) q21 hroom21; have hr21 := Kd.C_take (m := (t551 : Int).toNat) hC21 (by omega); have hy21 : y554.length = (t551 : Int).toNat := (by rw [Ny554.out, List.length_take]; omega); rw [← Ny554.out] at hr21; rw [← hy21] at hcut21; have HR557 := Aside0.mk hr21; have HC557 := Aside0.mk (show y554.length ≤ co8 from by omega); clear hr21 hC21 hroom21 hi021 hsz21; have KY21 := Aside0.mk hy21; clear hy21; have KL21 := Aside0.mk (show (t551 : Int).toNat ≤ t545.length from by omega); replace q21 := eq_true q21) | (go_at_call 36; (with_reducible refine (impl_IsPrefix.calls k _ _ y554 _ _ t546 true _ ?side1 ?side2 ?side3 ?side4 A18.out).mono ?_); (case side1 => repeat (first | exact (by repeat (first | (with_reducible exact HR557.out) | (with_reducible refine Kd.vW ?_ _) | (with_reducible refine Kd.vV ?_ _) | (with_reducible refine Kd.C_drew ?_) | exact HR557.out)) | (with_reducible refine Kd.vW ?_ _) | (with_reducible refine Kd.vV ?_ _) | (with_reducible refine Kd.C_drew ?_))); (case side2 => exact HC557.out); (case side3 => exact cq19); (case side4 => exact (Kd.uK HO550.out).2.1); rintro e w' ⟨rfl, ⟨nd, rfl⟩⟩) | (go_at_call 36; (with_reducible refine (impl_IsPrefix.calls k _ _ t545 _ _ t546 t559 _ ?side1 ?side2 ?side3 ?side4 A20.out).mono ?_); (case side1 => exact cq21); (case side2 => exact (Kd.uK HO548.out).2.1); (case side3 => exact cq19); (case side4 => exact (Kd.uK HO550.out).2.1); rintro e w' ⟨rfl, ⟨nd, rfl⟩⟩))
    go_meet
    case rel => exact ⟨_, ((t559 != (t551 == (t545.length : Int)))), cq15, H', ⟨by first | omega | exact Nat.le_refl _⟩, ⟨cq9⟩⟩
  case rest =>
    clear HC6
    try clear c3
    obtain ⟨kq, x73_5, rfl, HA, HJ5, HB⟩ := hcut
    cases kq with
    | zero => exact absurd HA.out (by simp [laws_FnLogs.j0])
    | succ kj5 =>
      have H := HA.out
      clear HA
      simp only [laws_FnLogs.j0] at H
      by_cases c23 : x73_5 = true
      · subst c23
        try rw [if_pos rfl] at H
        exact absurd H (by simp)
      replace c23 := Bool.eq_false_iff.mpr c23
      subst c23
      try rw [if_neg (show ¬ (false = true) by decide)] at H
      replace H := Option.bind_eq_some_iff.mp H
      obtain ⟨⟨t560, t561⟩, A240, H⟩ := H
      try dsimp only at H
      have A24 := Aside0.mk A240
      clear A240
      replace H := Option.bind_eq_some_iff.mp H
      obtain ⟨⟨t564, t565, t566⟩, A250, H⟩ := H
      try dsimp only at H
      have A25 := Aside0.mk A250
      clear A250
      replace H := Option.bind_eq_some_iff.mp H
      obtain ⟨⟨t568, t569, t570⟩, A260, H⟩ := H
      try dsimp only at H
      have A26 := Aside0.mk A260
      clear A260
      replace H := Option.bind_eq_some_iff.mp H
      obtain ⟨⟨t572, t575, t578⟩, A270, H⟩ := H
      try dsimp only at H
      have A27 := Aside0.mk A270
      clear A270
      replace H := Option.bind_eq_some_iff.mp H
      obtain ⟨⟨t580, t583, t586⟩, A280, H⟩ := H
      try dsimp only at H
      have A28 := Aside0.mk A280
      clear A280
      have HC29 := Aside0.mk H
      clear H
      go_upto_region 12 with (first | ((with_reducible refine uF (f := 37) rfl ?_); refine uX (some 76) Try.func37 #[.slice A0 l0.length c0] ?_; (with_reducible refine (spec_DrawResultAt.calls kj5 _ _ l0 t560 t561 _ ?side1 ?side2 A24.out).mono ?_); (case side1 => exact cq7); (case side2 => exact HC0.out); rintro e w30 ⟨v562, rfl, ho0, hb⟩; refine ⟨_, rfl, ?_⟩; have HO563 := Aside0.mk (Kd.uS ho0 (uO cq9)); replace HB := vB HB hb; (try clear hb); (try clear ho0); obtain ⟨Ao31, co31, eo31⟩ := Kd.uY HO563.out; subst eo31) | ((with_reducible refine uF (f := 28) rfl ?_); refine uX (some 82) Try.func28 #[.slice Ao31 t560.length co31, .int .i64 t561] ?_; (with_reducible refine (impl_ResultAt.calls kj5 _ _ t560 t561 t564 t565 t566 _ ?side1 ?side2 A25.out).mono ?_); (case side1 => repeat (first | exact (Kd.uK HO563.out).2.2 | (with_reducible refine Kd.vW ?_ _) | (with_reducible refine Kd.vV ?_ _) | (with_reducible refine Kd.C_drew ?_))); (case side2 => exact (Kd.uK HO563.out).2.1); rintro e w32 ⟨rfl, hb⟩; refine ⟨_, rfl, ?_⟩; replace HO563 := Kd.tR HO563 hb; replace HB := vB HB hb; (try clear hb)) | ((with_reducible refine uJ (N := 8) rfl ?_); refine bxe 8 #[.bool false, .int .i64 0] 33 ?_; intro gb567 hg w33 hbox hb; have BK567 := Aside0.mk (hbox); have GW567 := tGe HB hg; have GE567 := tGe HB hg; replace HO563 := Kd.tR HO563 hb; replace HB := vB HB hb; clear hb hbox hg; obtain ⟨hcz34_0, hcz34_1, hfz34_0, hfz34_1⟩ := cz2 BK567) | ((with_reducible refine uF (f := 26) rfl ?_); refine uX (some 88) Try.func26 #[.slice Ao31 t560.length co31, .int .i64 t561] ?_; (with_reducible refine (spec_ResultAt.calls kj5 _ _ t560 t561 t568 t569 t570 _ ?side1 ?side2 A26.out).mono ?_); (case side1 => refine (Kd.uK (e := 72) (base := w.heap.size) (ok := fun k_ => True) (n := t560.length) (c := co31) ?_).2.2; exact (by (with_reducible repeat (first | apply Kd.uQ | apply Kd.uR | apply Kd.uV)); exact (Kd.uN (Kd.uM (p := ⟨gb567, 1, none⟩) (Kd.uM (p := ⟨gb567, 0, none⟩) (Kd.vG HO563.out BK567.out (by decide)) (fun _ hk => hk.2) (.bool t564)) (fun _ hk => hk.2) (.int .i64 t565)) (fun _ h_ => h_.1)))); (case side2 => exact (Kd.uK HO563.out).2.1); rintro e w35 ⟨rfl, hb⟩; refine ⟨_, rfl, ?_⟩; replace HO563 := Aside0.mk (Kd.R_below (by (with_reducible repeat (first | apply Kd.uQ | apply Kd.uR | apply Kd.uV)); exact (Kd.uN (Kd.uM (p := ⟨gb567, 1, none⟩) (Kd.uM (p := ⟨gb567, 0, none⟩) (Kd.vG HO563.out BK567.out (by decide)) (fun _ hk => hk.2) (.bool t564)) (fun _ hk => hk.2) (.int .i64 t565)) (fun _ h_ => h_.1))) hb); replace BK567 := tBlkP BK567 #[.bool t564, .int .i64 t565] hb; replace HB := vB HB hb; (try clear hb)) | ((with_reducible refine uJ (N := 10) rfl ?_); refine bxe 10 #[.bool false, .int .i64 0] 33 ?_; intro gb571 hg w36 hbox hb; have BK571 := Aside0.mk (hbox); have GW571 := tGe HB hg; have GE571 := tGe HB hg; have NB567_571 := tNl BK567 hg; have NB571_567 := tNg BK567 hg; replace HO563 := Kd.tR HO563 hb; replace BK567 := uP BK567 hb; replace HB := vB HB hb; clear hb hbox hg; have hnb37 := NB571_567.out; have hnc37 := NB567_571.out; obtain ⟨hcz38_0, hcz38_1, hfz38_0, hfz38_1⟩ := cz2 BK571) | ((with_reducible refine uF (f := 31) rfl ?_); refine uX (some 93) Try.func31 #[.slice Ao31 t560.length co31] ?_; (with_reducible refine (impl_ReplayLog.calls kj5 _ _ t560 t572 t575 t578 _ ?side1 ?side2 A27.out).mono ?_); (case side1 => refine (Kd.uK (e := 72) (base := w.heap.size) (ok := fun k_ => True) (n := t560.length) (c := co31) ?_).2.2; exact (by (with_reducible repeat (first | apply Kd.uQ | apply Kd.uR | apply Kd.uV)); exact (Kd.uN (Kd.uM (p := ⟨gb571, 1, none⟩) (Kd.uM (p := ⟨gb571, 0, none⟩) (Kd.vG HO563.out BK571.out (by decide)) (fun _ hk => hk.2) (.bool t568)) (fun _ hk => hk.2) (.int .i64 t569)) (fun _ h_ => h_.1)))); (case side2 => exact (Kd.uK HO563.out).2.1); rintro e w39 ⟨v573, v576, rfl, ho0, ho1, hb⟩; refine ⟨_, rfl, ?_⟩; have HO574 := Aside0.mk (Kd.uS ho0 (uO vA)); have HO577 := Aside0.mk (Kd.uS ho1 (uO vA)); replace HO563 := Aside0.mk (Kd.R_below (by (with_reducible repeat (first | apply Kd.uQ | apply Kd.uR | apply Kd.uV)); exact (Kd.uN (Kd.uM (p := ⟨gb571, 1, none⟩) (Kd.uM (p := ⟨gb571, 0, none⟩) (Kd.vG HO563.out BK571.out (by decide)) (fun _ hk => hk.2) (.bool t568)) (fun _ hk => hk.2) (.int .i64 t569)) (fun _ h_ => h_.1))) hb); replace BK567 := tBlkF BK567 hb; replace BK571 := tBlkP BK571 #[.bool t568, .int .i64 t569] hb; replace HB := vB HB hb; (try clear hb); (try clear ho0); (try clear ho1)) | ((with_reducible refine uJ (N := 12) rfl ?_); refine bxe 12 #[.slice none 0 0, .slice none 0 0] 31 ?_; intro gb579 hg w40 hbox hb; have BK579 := Aside0.mk (hbox); have GW579 := tGe HB hg; have GE579 := tGe HB hg; have NB567_579 := tNl BK567 hg; have NB579_567 := tNg BK567 hg; have NB571_579 := tNl BK571 hg; have NB579_571 := tNg BK571 hg; replace HO563 := Kd.tR HO563 hb; replace HO574 := Kd.tR HO574 hb; replace HO577 := Kd.tR HO577 hb; replace BK567 := uP BK567 hb; replace BK571 := uP BK571 hb; replace HB := vB HB hb; clear hb hbox hg; obtain ⟨Ao41, co41, eo41⟩ := Kd.uY HO574.out; subst eo41; have hnb42 := NB579_567.out; have hnc42 := NB567_579.out; have hnb43 := NB579_571.out; have hnc43 := NB571_579.out; obtain ⟨hcz44_0, hcz44_1, hfz44_0, hfz44_1⟩ := cz2 BK579; obtain ⟨Ao45, co45, eo45⟩ := Kd.uY HO577.out; subst eo45) | ((with_reducible refine uF (f := 30) rfl ?_); refine uX (some 98) Try.func30 #[.slice Ao31 t560.length co31] ?_; (with_reducible refine (spec_ReplayLog.calls kj5 _ _ t560 t580 t583 t586 _ ?side1 ?side2 A28.out).mono ?_); (case side1 => refine (Kd.uK (e := 72) (base := w.heap.size) (ok := fun k_ => True) (n := t560.length) (c := co31) ?_).2.2; exact (by (with_reducible repeat (first | apply Kd.uQ | apply Kd.uR | apply Kd.uV)); exact (Kd.uN (Kd.uM (p := ⟨gb579, 1, none⟩) (Kd.uM (p := ⟨gb579, 0, none⟩) (Kd.vG HO563.out BK579.out (by decide)) (fun _ hk => hk.2) (.slice Ao41 t572.length co41)) (fun _ hk => hk.2) (.slice Ao45 t575.length co45)) (fun _ h_ => h_.1)))); (case side2 => exact (Kd.uK HO563.out).2.1); rintro e w46 ⟨v581, v584, rfl, ho0, ho1, hb⟩; refine ⟨_, rfl, ?_⟩; have HO582 := Aside0.mk (Kd.uS (Kd.vT ho0 (Kd.R_lt (by (with_reducible repeat (first | apply Kd.uQ | apply Kd.uR | apply Kd.uV)); exact (Kd.uN (Kd.uM (p := ⟨gb579, 1, none⟩) (Kd.uM (p := ⟨gb579, 0, none⟩) (Kd.vG HO574.out BK579.out (by decide)) (fun _ hk => hk.2) (.slice Ao41 t572.length co41)) (fun _ hk => hk.2) (.slice Ao45 t575.length co45)) (fun _ h_ => h_.1))))) (uO vA)); have HO585 := Aside0.mk (Kd.uS (Kd.vT ho1 (Kd.R_lt (by (with_reducible repeat (first | apply Kd.uQ | apply Kd.uR | apply Kd.uV)); exact (Kd.uN (Kd.uM (p := ⟨gb579, 1, none⟩) (Kd.uM (p := ⟨gb579, 0, none⟩) (Kd.vG HO577.out BK579.out (by decide)) (fun _ hk => hk.2) (.slice Ao41 t572.length co41)) (fun _ hk => hk.2) (.slice Ao45 t575.length co45)) (fun _ h_ => h_.1))))) (uO vA)); replace HO563 := Aside0.mk (Kd.R_below (by (with_reducible repeat (first | apply Kd.uQ | apply Kd.uR | apply Kd.uV)); exact (Kd.uN (Kd.uM (p := ⟨gb579, 1, none⟩) (Kd.uM (p := ⟨gb579, 0, none⟩) (Kd.vG HO563.out BK579.out (by decide)) (fun _ hk => hk.2) (.slice Ao41 t572.length co41)) (fun _ hk => hk.2) (.slice Ao45 t575.length co45)) (fun _ h_ => h_.1))) hb); replace HO574 := Aside0.mk (Kd.vI (by (with_reducible repeat (first | apply Kd.uQ | apply Kd.uR | apply Kd.uV)); exact (Kd.uN (Kd.uM (p := ⟨gb579, 1, none⟩) (Kd.uM (p := ⟨gb579, 0, none⟩) (Kd.vG HO574.out BK579.out (by decide)) (fun _ hk => hk.2) (.slice Ao41 t572.length co41)) (fun _ hk => hk.2) (.slice Ao45 t575.length co45)) (fun _ h_ => h_.1))) (Kd.vS ho0) hb); replace HO577 := Aside0.mk (Kd.vI (by (with_reducible repeat (first | apply Kd.uQ | apply Kd.uR | apply Kd.uV)); exact (Kd.uN (Kd.uM (p := ⟨gb579, 1, none⟩) (Kd.uM (p := ⟨gb579, 0, none⟩) (Kd.vG HO577.out BK579.out (by decide)) (fun _ hk => hk.2) (.slice Ao41 t572.length co41)) (fun _ hk => hk.2) (.slice Ao45 t575.length co45)) (fun _ h_ => h_.1))) (Kd.vS ho1) hb); replace BK567 := tBlkF BK567 hb; replace BK571 := tBlkF BK571 hb; replace BK579 := tBlkP BK579 #[.slice Ao41 t572.length co41, .slice Ao45 t575.length co45] hb; replace HB := vB HB hb; (try clear hb); (try clear ho0); (try clear ho1)) | ((with_reducible refine uJ (N := 14) rfl ?_); refine bxe 14 #[.slice none 0 0, .slice none 0 0] 31 ?_; intro gb587 hg w47 hbox hb; have BK587 := Aside0.mk (hbox); have GW587 := tGe HB hg; have GE587 := tGe HB hg; have NB567_587 := tNl BK567 hg; have NB587_567 := tNg BK567 hg; have NB571_587 := tNl BK571 hg; have NB587_571 := tNg BK571 hg; have NB579_587 := tNl BK579 hg; have NB587_579 := tNg BK579 hg; replace HO563 := Kd.tR HO563 hb; replace HO574 := Kd.tR HO574 hb; replace HO577 := Kd.tR HO577 hb; replace HO582 := Kd.tR HO582 hb; replace HO585 := Kd.tR HO585 hb; replace BK567 := uP BK567 hb; replace BK571 := uP BK571 hb; replace BK579 := uP BK579 hb; replace HB := vB HB hb; clear hb hbox hg; obtain ⟨Ao48, co48, eo48⟩ := Kd.uY HO582.out; subst eo48; have hnb49 := NB587_567.out; have hnc49 := NB567_587.out; have hnb50 := NB587_571.out; have hnc50 := NB571_587.out; have hnb51 := NB587_579.out; have hnc51 := NB579_587.out; obtain ⟨hcz52_0, hcz52_1, hfz52_0, hfz52_1⟩ := cz2 BK587; obtain ⟨Ao53, co53, eo53⟩ := Kd.uY HO585.out; subst eo53))
      (try simp only [Act.put, yA, yB, yC])
      go_cut [119] (fun v119 wc => ∃ (kq : Nat) (x119_28 : Bool), v119 = .bool x119_28 ∧ Aside0 (laws_FnLogs.j1 kq l0 x119_28 = some true) ∧ Aside0 (kq ≤ kj5) ∧ Aside0 (Kd.R (Kd.int .i64) 3 wc w.heap.size (fun k_ => some k_ ≠ ((.slice Ao48 t580.length co48) : Value).ownBlock) (.slice Ao41 t572.length co41) t572) ∧ Aside0 (Kd.R k49 49 wc w.heap.size (fun k_ => some k_ ≠ ((.slice Ao53 t583.length co53) : Value).ownBlock) (.slice Ao45 t575.length co45) t575) ∧ Aside0 (Kd.R (Kd.int .i64) 3 wc w.heap.size (fun k_ => some k_ ≠ ((.slice Ao41 t572.length co41) : Value).ownBlock) (.slice Ao48 t580.length co48) t580) ∧ Aside0 (Kd.R k49 49 wc w.heap.size (fun k_ => some k_ ≠ ((.slice Ao45 t575.length co45) : Value).ownBlock) (.slice Ao53 t583.length co53) t583) ∧ Aside0 (wc.heap[gb567]? = some (.cells #[.bool t564, .int .i64 t565] 33 (0, 0))) ∧ Aside0 (wc.heap[gb571]? = some (.cells #[.bool t568, .int .i64 t569] 33 (0, 0))) ∧ Aside0 (wc.heap[gb579]? = some (.cells #[(.slice Ao41 t572.length co41), (.slice Ao45 t575.length co45)] 31 (0, 0))) ∧ Aside0 (wc.heap[gb587]? = some (.cells #[(.slice Ao48 t580.length co48), (.slice Ao53 t583.length co53)] 31 (0, 0))) ∧ Aside0 (Below w.heap.size w wc))
      case first =>
        have H := HC29.out
        clear HC29
        by_cases c54 : (t566 != t570) = true
        · rw [if_pos c54] at H
          have c54b0 : (t566 != t570) = true := c54
          (try (have c54b1 : decide (t566 = t570) = false := by simpa using c54))
          (try (have c54b2 : (t566 == t570) = false := by simpa using c54))
          (try (have c54b3 : ¬ (t566 = t570) := by simpa using c54))
          clear c54
          (first | rw [c54b0] | (simp only [vQ, vU]; rw [c54b0]) | skip)
          have H' := Aside0.mk H
          clear H
          go_wp2
          go_meet
          case rel => exact ⟨_, (true), cq15, H', ⟨by have := HJ5.out; first | omega | exact Nat.le_refl _⟩, ⟨cq51⟩, ⟨cq52⟩, ⟨cq53⟩, ⟨cq54⟩, ⟨cq46⟩, ⟨cq47⟩, ⟨cq48⟩, ⟨cq38⟩, ⟨vA⟩⟩
        rw [if_neg c54] at H
        have c54b0 : (t566 != t570) = false := by simpa using c54
        (try (have c54b1 : decide (t566 = t570) = true := by simpa using c54))
        (try (have c54b2 : (t566 == t570) = true := by simpa using c54))
        clear c54
        (first | rw [c54b0] | (simp only [vQ, vU]; rw [c54b0]) | skip)
        by_cases c55 : (!(t564 == t568) || (!(t565 == t569))) = true
        · rw [if_pos c55] at H
          have c55b0 : (!(t564 == t568) || (!(t565 == t569))) = true := c55
          clear c55
          have H' := Aside0.mk H
          clear H
          have hnb56 := NB567_571.out
          have hnc56 := NB571_567.out
          have hnb57 := NB567_579.out
          have hnc57 := NB579_567.out
          have hnb58 := NB567_587.out
          have hnc58 := NB587_567.out
          obtain ⟨hcz59_0, hcz59_1, hfz59_0, hfz59_1⟩ := cz2 BK567
          have hnb60 := NB571_579.out
          have hnc60 := NB579_571.out
          have hnb61 := NB571_587.out
          have hnc61 := NB587_571.out
          obtain ⟨hcz62_0, hcz62_1, hfz62_0, hfz62_1⟩ := cz2 BK571
          go_wp2
          go_meet
          case rel => exact ⟨_, (true), cq15, H', ⟨by have := HJ5.out; first | omega | exact Nat.le_refl _⟩, ⟨cq51⟩, ⟨cq52⟩, ⟨cq53⟩, ⟨cq54⟩, ⟨cq46⟩, ⟨cq47⟩, ⟨cq48⟩, ⟨cq38⟩, ⟨vA⟩⟩
        rw [if_neg c55] at H
        have c55b0 : (!(t564 == t568) || (!(t565 == t569))) = false := by simpa using c55
        clear c55
        by_cases c63 : (t578 != t586) = true
        · rw [if_pos c63] at H
          have c63b0 : (t578 != t586) = true := c63
          (try (have c63b1 : decide (t578 = t586) = false := by simpa using c63))
          (try (have c63b2 : (t578 == t586) = false := by simpa using c63))
          (try (have c63b3 : ¬ (t578 = t586) := by simpa using c63))
          clear c63
          have H' := Aside0.mk H
          clear H
          have hnb64 := NB567_571.out
          have hnc64 := NB571_567.out
          have hnb65 := NB567_579.out
          have hnc65 := NB579_567.out
          have hnb66 := NB567_587.out
          have hnc66 := NB587_567.out
          obtain ⟨hcz67_0, hcz67_1, hfz67_0, hfz67_1⟩ := cz2 BK567
          have hnb68 := NB571_579.out
          have hnc68 := NB579_571.out
          have hnb69 := NB571_587.out
          have hnc69 := NB587_571.out
          obtain ⟨hcz70_0, hcz70_1, hfz70_0, hfz70_1⟩ := cz2 BK571
          go_wp2
          go_meet
          case rel => exact ⟨_, (true), cq15, H', ⟨by have := HJ5.out; first | omega | exact Nat.le_refl _⟩, ⟨cq51⟩, ⟨cq52⟩, ⟨cq53⟩, ⟨cq54⟩, ⟨cq46⟩, ⟨cq47⟩, ⟨cq48⟩, ⟨cq38⟩, ⟨vA⟩⟩
        rw [if_neg c63] at H
        have c63b0 : (t578 != t586) = false := by simpa using c63
        (try (have c63b1 : decide (t578 = t586) = true := by simpa using c63))
        (try (have c63b2 : (t578 == t586) = true := by simpa using c63))
        clear c63
        replace H := Option.bind_eq_some_iff.mp H
        obtain ⟨t588, A710, H⟩ := H
        try dsimp only at H
        have A71 := Aside0.mk A710
        clear A710
        have H' := Aside0.mk H
        clear H
        have hnb72 := NB567_571.out
        have hnc72 := NB571_567.out
        have hnb73 := NB567_579.out
        have hnc73 := NB579_567.out
        have hnb74 := NB567_587.out
        have hnc74 := NB587_567.out
        obtain ⟨hcz75_0, hcz75_1, hfz75_0, hfz75_1⟩ := cz2 BK567
        have hnb76 := NB571_579.out
        have hnc76 := NB579_571.out
        have hnb77 := NB571_587.out
        have hnc77 := NB587_571.out
        obtain ⟨hcz78_0, hcz78_1, hfz78_0, hfz78_1⟩ := cz2 BK571
        have hnb79 := NB579_587.out
        have hnc79 := NB587_579.out
        obtain ⟨hcz80_0, hcz80_1, hfz80_0, hfz80_1⟩ := cz2 BK579
        obtain ⟨hcz81_0, hcz81_1, hfz81_0, hfz81_1⟩ := cz2 BK587
        go_wp2_with (first | (go_at_call 19; (with_reducible refine (impl_EqualMachines.calls kj5 _ _ t572 _ _ t575 _ _ t580 _ _ t583 t588 _ ?side1 ?side2 ?side3 ?side4 ?side5 ?side6 ?side7 ?side8 A71.out).mono ?_); (case side1 => refine (Kd.uK (e := 3) (base := w.heap.size) (ok := fun k_ => (True ∧ some k_ ≠ (.slice Ao48 t580.length co48 : Value).ownBlock)) (n := t572.length) (c := co41) ?_).2.2; exact (by (with_reducible repeat (first | apply Kd.uQ | apply Kd.uR | apply Kd.uV)); exact (Kd.uN (Kd.uM (p := ⟨gb587, 1, none⟩) (Kd.uM (p := ⟨gb587, 0, none⟩) (Kd.vG HO574.out BK587.out (by decide)) (fun _ hk => hk.2) (.slice Ao48 t580.length co48)) (fun _ hk => hk.2) (.slice Ao53 t583.length co53)) (fun _ h_ => h_.1)))); (case side2 => exact (Kd.uK HO574.out).2.1); (case side3 => refine (Kd.uK (e := 49) (base := w.heap.size) (ok := fun k_ => (True ∧ some k_ ≠ (.slice Ao53 t583.length co53 : Value).ownBlock)) (n := t575.length) (c := co45) ?_).2.2; exact (by (with_reducible repeat (first | apply Kd.uQ | apply Kd.uR | apply Kd.uV)); exact (Kd.uN (Kd.uM (p := ⟨gb587, 1, none⟩) (Kd.uM (p := ⟨gb587, 0, none⟩) (Kd.vG HO577.out BK587.out (by decide)) (fun _ hk => hk.2) (.slice Ao48 t580.length co48)) (fun _ hk => hk.2) (.slice Ao53 t583.length co53)) (fun _ h_ => h_.1)))); (case side4 => exact (Kd.uK HO577.out).2.1); (case side5 => refine (Kd.uK (e := 3) (base := w.heap.size) (ok := fun k_ => (True ∧ some k_ ≠ (.slice Ao41 t572.length co41 : Value).ownBlock)) (n := t580.length) (c := co48) ?_).2.2; exact (by (with_reducible repeat (first | apply Kd.uQ | apply Kd.uR | apply Kd.uV)); exact (Kd.uN (Kd.uM (p := ⟨gb587, 1, none⟩) (Kd.uM (p := ⟨gb587, 0, none⟩) (Kd.vG HO582.out BK587.out (by decide)) (fun _ hk => hk.2) (.slice Ao48 t580.length co48)) (fun _ hk => hk.2) (.slice Ao53 t583.length co53)) (fun _ h_ => h_.1)))); (case side6 => exact (Kd.uK HO582.out).2.1); (case side7 => refine (Kd.uK (e := 49) (base := w.heap.size) (ok := fun k_ => (True ∧ some k_ ≠ (.slice Ao45 t575.length co45 : Value).ownBlock)) (n := t583.length) (c := co53) ?_).2.2; exact (by (with_reducible repeat (first | apply Kd.uQ | apply Kd.uR | apply Kd.uV)); exact (Kd.uN (Kd.uM (p := ⟨gb587, 1, none⟩) (Kd.uM (p := ⟨gb587, 0, none⟩) (Kd.vG HO585.out BK587.out (by decide)) (fun _ hk => hk.2) (.slice Ao48 t580.length co48)) (fun _ hk => hk.2) (.slice Ao53 t583.length co53)) (fun _ h_ => h_.1)))); (case side8 => exact (Kd.uK HO585.out).2.1); rintro e w82 ⟨rfl, hb⟩; replace HO563 := Aside0.mk (Kd.R_below (by (with_reducible repeat (first | apply Kd.uQ | apply Kd.uR | apply Kd.uV)); exact (Kd.uN (Kd.uM (p := ⟨gb587, 1, none⟩) (Kd.uM (p := ⟨gb587, 0, none⟩) (Kd.vG HO563.out BK587.out (by decide)) (fun _ hk => hk.2) (.slice Ao48 t580.length co48)) (fun _ hk => hk.2) (.slice Ao53 t583.length co53)) (fun _ h_ => h_.1))) hb); replace HO574 := Aside0.mk (Kd.R_below (by (with_reducible repeat (first | apply Kd.uQ | apply Kd.uR | apply Kd.uV)); exact (Kd.uN (Kd.uM (p := ⟨gb587, 1, none⟩) (Kd.uM (p := ⟨gb587, 0, none⟩) (Kd.vG HO574.out BK587.out (by decide)) (fun _ hk => hk.2) (.slice Ao48 t580.length co48)) (fun _ hk => hk.2) (.slice Ao53 t583.length co53)) (fun _ h_ => h_.1))) hb); replace HO577 := Aside0.mk (Kd.R_below (by (with_reducible repeat (first | apply Kd.uQ | apply Kd.uR | apply Kd.uV)); exact (Kd.uN (Kd.uM (p := ⟨gb587, 1, none⟩) (Kd.uM (p := ⟨gb587, 0, none⟩) (Kd.vG HO577.out BK587.out (by decide)) (fun _ hk => hk.2) (.slice Ao48 t580.length co48)) (fun _ hk => hk.2) (.slice Ao53 t583.length co53)) (fun _ h_ => h_.1))) hb); replace HO582 := Aside0.mk (Kd.R_below (by (with_reducible repeat (first | apply Kd.uQ | apply Kd.uR | apply Kd.uV)); exact (Kd.uN (Kd.uM (p := ⟨gb587, 1, none⟩) (Kd.uM (p := ⟨gb587, 0, none⟩) (Kd.vG HO582.out BK587.out (by decide)) (fun _ hk => hk.2) (.slice Ao48 t580.length co48)) (fun _ hk => hk.2) (.slice Ao53 t583.length co53)) (fun _ h_ => h_.1))) hb); replace HO585 := Aside0.mk (Kd.R_below (by (with_reducible repeat (first | apply Kd.uQ | apply Kd.uR | apply Kd.uV)); exact (Kd.uN (Kd.uM (p := ⟨gb587, 1, none⟩) (Kd.uM (p := ⟨gb587, 0, none⟩) (Kd.vG HO585.out BK587.out (by decide)) (fun _ hk => hk.2) (.slice Ao48 t580.length co48)) (fun _ hk => hk.2) (.slice Ao53 t583.length co53)) (fun _ h_ => h_.1))) hb); replace BK567 := tBlkF BK567 hb; replace BK571 := tBlkF BK571 hb; replace BK579 := tBlkF BK579 hb; replace BK587 := tBlkP BK587 #[.slice Ao48 t580.length co48, .slice Ao53 t583.length co53] hb; replace HB := vB HB hb; (try clear hb)))
        go_meet
        case rel => exact ⟨_, (!t588), cq15, H', ⟨by have := HJ5.out; first | omega | exact Nat.le_refl _⟩, ⟨by (with_reducible repeat (first | apply Kd.uQ | apply Kd.uR | apply Kd.uV)); exact Kd.uN HO574.out (fun _ hk => hk.2)⟩, ⟨by (with_reducible repeat (first | apply Kd.uQ | apply Kd.uR | apply Kd.uV)); exact Kd.uN HO577.out (fun _ hk => hk.2)⟩, ⟨by (with_reducible repeat (first | apply Kd.uQ | apply Kd.uR | apply Kd.uV)); exact Kd.uN HO582.out (fun _ hk => hk.2)⟩, ⟨by (with_reducible repeat (first | apply Kd.uQ | apply Kd.uR | apply Kd.uV)); exact Kd.uN HO585.out (fun _ hk => hk.2)⟩, ⟨by (with_reducible repeat (first | refine uC ?_ _ | refine uE ?_ | refine uD ?_ _)); exact BK567.out⟩, ⟨by (with_reducible repeat (first | refine uC ?_ _ | refine uE ?_ | refine uD ?_ _)); exact BK571.out⟩, ⟨by (with_reducible repeat (first | refine uC ?_ _ | refine uE ?_ | refine uD ?_ _)); exact BK579.out⟩, ⟨by (with_reducible repeat (first | refine uC ?_ _ | refine uE ?_ | refine uD ?_ _)); exact BK587.out⟩, ⟨vA⟩⟩
      case rest =>
        clear HC29
        try clear c3
        try clear c23
        try clear hcz34_0
        try clear hcz34_1
        try clear hcz38_0
        try clear hcz38_1
        try clear hcz44_0
        try clear hcz44_1
        try clear hcz52_0
        try clear hcz52_1
        try clear hfz34_0
        try clear hfz34_1
        try clear hfz38_0
        try clear hfz38_1
        try clear hfz44_0
        try clear hfz44_1
        try clear hfz52_0
        try clear hfz52_1
        obtain ⟨kq, x119_28, rfl, HA, HJ28, HO_580000, HO_580001, HO_588000, HO_588001, BK567, BK571, BK579, BK587, HB⟩ := hcut
        cases kq with
        | zero => exact absurd HA.out (by simp [laws_FnLogs.j1])
        | succ kj28 =>
          have H := HA.out
          clear HA
          simp only [laws_FnLogs.j1] at H
          by_cases c83 : x119_28 = true
          · subst c83
            try rw [if_pos rfl] at H
            exact absurd H (by simp)
          replace c83 := Bool.eq_false_iff.mpr c83
          subst c83
          try rw [if_neg (show ¬ (false = true) by decide)] at H
          replace H := Option.bind_eq_some_iff.mp H
          obtain ⟨⟨t589, t592, t593, t594, t595, t596, t597, t598⟩, A840, H⟩ := H
          try dsimp only at H
          have A84 := Aside0.mk A840
          clear A840
          replace H := Option.bind_eq_some_iff.mp H
          obtain ⟨⟨t600, t603⟩, A850, H⟩ := H
          try dsimp only at H
          have A85 := Aside0.mk A850
          clear A850
          replace H := Option.bind_eq_some_iff.mp H
          obtain ⟨⟨t604, t607⟩, A860, H⟩ := H
          try dsimp only at H
          have A86 := Aside0.mk A860
          clear A860
          go_wp2_with (first | ((with_reducible refine uF (f := 38) rfl ?_); refine uX (some 122) Try.func38 #[.slice A0 l0.length c0] ?_; (with_reducible refine (spec_DrawAppendEntry.calls kj28 _ _ l0 t589 t592 t593 t594 t595 t596 t597 t598 _ ?side1 ?side2 A84.out).mono ?_); (case side1 => exact cq7); (case side2 => exact HC0.out); rintro e w109 ⟨v590, rfl, ho0, hb⟩; refine ⟨_, rfl, ?_⟩; have HO591 := Aside0.mk (Kd.uS ho0 (uO vA)); replace HO_580000 := Kd.tR HO_580000 hb; replace HO_580001 := Kd.tR HO_580001 hb; replace HO_588000 := Kd.tR HO_588000 hb; replace HO_588001 := Kd.tR HO_588001 hb; replace BK567 := uP BK567 hb; replace BK571 := uP BK571 hb; replace BK579 := uP BK579 hb; replace BK587 := uP BK587 hb; replace HB := vB HB hb; (try clear hb); (try clear ho0)) | ((with_reducible refine uJ (N := 17) rfl ?_); refine bxe 17 #[.int .i64 0, .int .i64 0, .int .i64 0, .int .i64 0, .int .i64 0, .int .i64 0, .int .i64 0] 72 ?_; intro gb599 hg w110 hbox hb; have BK599 := Aside0.mk (hbox); have GW599 := tGe HB hg; have GE599 := tGe HB hg; have NB567_599 := tNl BK567 hg; have NB599_567 := tNg BK567 hg; have NB571_599 := tNl BK571 hg; have NB599_571 := tNg BK571 hg; have NB579_599 := tNl BK579 hg; have NB599_579 := tNg BK579 hg; have NB587_599 := tNl BK587 hg; have NB599_587 := tNg BK587 hg; replace HO_580000 := Kd.tR HO_580000 hb; replace HO_580001 := Kd.tR HO_580001 hb; replace HO_588000 := Kd.tR HO_588000 hb; replace HO_588001 := Kd.tR HO_588001 hb; replace HO591 := Aside0.mk (Kd.R_below (Kd.R_elderB (uZ HO591.out) gb599 (Nat.le_of_eq hg.symm)) hb); replace BK567 := uP BK567 hb; replace BK571 := uP BK571 hb; replace BK579 := uP BK579 hb; replace BK587 := uP BK587 hb; replace HB := vB HB hb; clear hb hbox hg; have hnb111 := NB599_567.out; have hnc111 := NB567_599.out; have hnb112 := NB599_571.out; have hnc112 := NB571_599.out; have hnb113 := NB599_579.out; have hnc113 := NB579_599.out; have hnb114 := NB599_587.out; have hnc114 := NB587_599.out; obtain ⟨hcz115_0, hcz115_1, hcz115_2, hcz115_3, hcz115_4, hcz115_5, hcz115_6, hfz115_0, hfz115_1, hfz115_2, hfz115_3, hfz115_4, hfz115_5, hfz115_6⟩ := cz7 BK599; obtain ⟨Ao116, co116, eo116⟩ := Kd.uY HO591.out; subst eo116; refine ?roundEnd))
          case roundEnd =>
          by_cases c87 : (t603 == t607) = true
          rotate_left
          · rw [if_neg c87] at H
            have c87b0 : (t603 == t607) = false := by simpa using c87
            (try (have c87b1 : decide (t603 = t607) = false := by simpa using c87))
            (try (have c87b2 : (t603 == t607) = false := by simpa using c87))
            (try (have c87b3 : ¬ (t603 = t607) := by simpa using c87))
            clear c87
            exact absurd H (by simp)
          rw [if_pos c87] at H
          have c87b0 : (t603 == t607) = true := c87
          (try (have c87b1 : decide (t603 = t607) = true := by simpa using c87))
          (try (have c87b2 : (t603 == t607) = true := by simpa using c87))
          clear c87
          by_cases c88 : (t600.length : Int) = (t604.length : Int)
          rotate_left
          · rw [if_neg c88] at H
            have c88b0 := beq_eq_false_iff_ne.mpr c88
            have c88b1 := bne_iff_ne.mpr c88
            have c88b2 : (t600.length == t604.length) = false := by first | simpa using c88 | (simp at c88 ⊢; omega)
            exact absurd H (by simp)
          rw [if_pos c88] at H
          have c88b0 := beq_iff_eq.mpr c88
          have c88b1 := bne_eq_false_iff_eq.mpr c88
          have c88b2 : (t600.length == t604.length) = true := by first | simpa using c88 | (simp at c88 ⊢; omega)
          clear c88
          replace H := Option.bind_eq_some_iff.mp H
          obtain ⟨t608, A890, H⟩ := H
          try dsimp only at H
          have A89 := Aside0.mk A890
          clear A890
          by_cases c90 : t608 = true
          rotate_left
          · replace c90 := Bool.eq_false_iff.mpr c90
            subst c90
            try rw [if_neg (show ¬ (false = true) by decide)] at H
            exact absurd H (by simp)
          subst c90
          try rw [if_pos rfl] at H
          by_cases c91 : t603 = true
          rotate_left
          · replace c91 := Bool.eq_false_iff.mpr c91
            subst c91
            try rw [if_neg (show ¬ (false = true) by decide)] at H
            go_wp2_with (first | ((with_reducible refine uF (f := 39) rfl ?_); refine uX (some 128) Try.func39 #[.slice Ao116 t589.length co116, .agg #[.int .i64 t592, .int .i64 t593, .int .i64 t594, .int .i64 t595, .int .i64 t596, .int .i64 t597, .int .i64 t598]] ?_; (with_reducible refine (impl_AppendEntry.calls kj28 _ _ t589 t592 t593 t594 t595 t596 t597 t598 t600 false _ ?side1 ?side2 A85.out).mono ?_); (case side1 => refine (Kd.uK (e := 72) (base := w.heap.size) (ok := fun k_ => (True ∧ k_ ≠ gb599)) (n := t589.length) (c := co116) ?_).2.2; exact cq10); (case side2 => exact (Kd.uK HO591.out).2.1); rintro e w117 ⟨v601, rfl, ho0, hb⟩; refine ⟨_, rfl, ?_⟩; have HO602 := Aside0.mk (Kd.uS (Kd.R_newB (Kd.vT ho0 (Kd.R_lt cq10)) (g := gb599) (o := .cells #[.int .i64 t592, .int .i64 t593, .int .i64 t594, .int .i64 t595, .int .i64 t596, .int .i64 t597, .int .i64 t598] 72 (0, 0)) (by (with_reducible repeat (first | refine uC ?_ _ | refine uE ?_ | refine uD ?_ _)); refine uL (cs := #[.int .i64 t592, .int .i64 t593, .int .i64 t594, .int .i64 t595, .int .i64 t596, .int .i64 t597, .int .i64 0]) ?_ 6 _ rfl; (with_reducible repeat (first | refine uC ?_ _ | refine uE ?_ | refine uD ?_ _)); refine uL (cs := #[.int .i64 t592, .int .i64 t593, .int .i64 t594, .int .i64 t595, .int .i64 t596, .int .i64 0, .int .i64 0]) ?_ 5 _ rfl; (with_reducible repeat (first | refine uC ?_ _ | refine uE ?_ | refine uD ?_ _)); refine uL (cs := #[.int .i64 t592, .int .i64 t593, .int .i64 t594, .int .i64 t595, .int .i64 0, .int .i64 0, .int .i64 0]) ?_ 4 _ rfl; (with_reducible repeat (first | refine uC ?_ _ | refine uE ?_ | refine uD ?_ _)); refine uL (cs := #[.int .i64 t592, .int .i64 t593, .int .i64 t594, .int .i64 0, .int .i64 0, .int .i64 0, .int .i64 0]) ?_ 3 _ rfl; (with_reducible repeat (first | refine uC ?_ _ | refine uE ?_ | refine uD ?_ _)); refine uL (cs := #[.int .i64 t592, .int .i64 t593, .int .i64 0, .int .i64 0, .int .i64 0, .int .i64 0, .int .i64 0]) ?_ 2 _ rfl; (with_reducible repeat (first | refine uC ?_ _ | refine uE ?_ | refine uD ?_ _)); refine uL (cs := #[.int .i64 t592, .int .i64 0, .int .i64 0, .int .i64 0, .int .i64 0, .int .i64 0, .int .i64 0]) ?_ 1 _ rfl; (with_reducible repeat (first | refine uC ?_ _ | refine uE ?_ | refine uD ?_ _)); refine uL (cs := #[.int .i64 0, .int .i64 0, .int .i64 0, .int .i64 0, .int .i64 0, .int .i64 0, .int .i64 0]) ?_ 0 _ rfl; (with_reducible repeat (first | refine uC ?_ _ | refine uE ?_ | refine uD ?_ _)); exact BK599.out)) (uO vA)); replace HO_580000 := Aside0.mk (Kd.R_below (by (with_reducible repeat (first | apply Kd.uQ | apply Kd.uR | apply Kd.uV)); exact (Kd.uN (Kd.uM (p := ⟨gb599, 6, none⟩) (Kd.uM (p := ⟨gb599, 5, none⟩) (Kd.uM (p := ⟨gb599, 4, none⟩) (Kd.uM (p := ⟨gb599, 3, none⟩) (Kd.uM (p := ⟨gb599, 2, none⟩) (Kd.uM (p := ⟨gb599, 1, none⟩) (Kd.uM (p := ⟨gb599, 0, none⟩) (Kd.vG HO_580000.out BK599.out (by decide)) (fun _ hk => hk.2) (.int .i64 t592)) (fun _ hk => hk.2) (.int .i64 t593)) (fun _ hk => hk.2) (.int .i64 t594)) (fun _ hk => hk.2) (.int .i64 t595)) (fun _ hk => hk.2) (.int .i64 t596)) (fun _ hk => hk.2) (.int .i64 t597)) (fun _ hk => hk.2) (.int .i64 t598)) (fun _ h_ => h_.1))) hb); replace HO_580001 := Aside0.mk (Kd.R_below (by (with_reducible repeat (first | apply Kd.uQ | apply Kd.uR | apply Kd.uV)); exact (Kd.uN (Kd.uM (p := ⟨gb599, 6, none⟩) (Kd.uM (p := ⟨gb599, 5, none⟩) (Kd.uM (p := ⟨gb599, 4, none⟩) (Kd.uM (p := ⟨gb599, 3, none⟩) (Kd.uM (p := ⟨gb599, 2, none⟩) (Kd.uM (p := ⟨gb599, 1, none⟩) (Kd.uM (p := ⟨gb599, 0, none⟩) (Kd.vG HO_580001.out BK599.out (by decide)) (fun _ hk => hk.2) (.int .i64 t592)) (fun _ hk => hk.2) (.int .i64 t593)) (fun _ hk => hk.2) (.int .i64 t594)) (fun _ hk => hk.2) (.int .i64 t595)) (fun _ hk => hk.2) (.int .i64 t596)) (fun _ hk => hk.2) (.int .i64 t597)) (fun _ hk => hk.2) (.int .i64 t598)) (fun _ h_ => h_.1))) hb); replace HO_588000 := Aside0.mk (Kd.R_below (by (with_reducible repeat (first | apply Kd.uQ | apply Kd.uR | apply Kd.uV)); exact (Kd.uN (Kd.uM (p := ⟨gb599, 6, none⟩) (Kd.uM (p := ⟨gb599, 5, none⟩) (Kd.uM (p := ⟨gb599, 4, none⟩) (Kd.uM (p := ⟨gb599, 3, none⟩) (Kd.uM (p := ⟨gb599, 2, none⟩) (Kd.uM (p := ⟨gb599, 1, none⟩) (Kd.uM (p := ⟨gb599, 0, none⟩) (Kd.vG HO_588000.out BK599.out (by decide)) (fun _ hk => hk.2) (.int .i64 t592)) (fun _ hk => hk.2) (.int .i64 t593)) (fun _ hk => hk.2) (.int .i64 t594)) (fun _ hk => hk.2) (.int .i64 t595)) (fun _ hk => hk.2) (.int .i64 t596)) (fun _ hk => hk.2) (.int .i64 t597)) (fun _ hk => hk.2) (.int .i64 t598)) (fun _ h_ => h_.1))) hb); replace HO_588001 := Aside0.mk (Kd.R_below (by (with_reducible repeat (first | apply Kd.uQ | apply Kd.uR | apply Kd.uV)); exact (Kd.uN (Kd.uM (p := ⟨gb599, 6, none⟩) (Kd.uM (p := ⟨gb599, 5, none⟩) (Kd.uM (p := ⟨gb599, 4, none⟩) (Kd.uM (p := ⟨gb599, 3, none⟩) (Kd.uM (p := ⟨gb599, 2, none⟩) (Kd.uM (p := ⟨gb599, 1, none⟩) (Kd.uM (p := ⟨gb599, 0, none⟩) (Kd.vG HO_588001.out BK599.out (by decide)) (fun _ hk => hk.2) (.int .i64 t592)) (fun _ hk => hk.2) (.int .i64 t593)) (fun _ hk => hk.2) (.int .i64 t594)) (fun _ hk => hk.2) (.int .i64 t595)) (fun _ hk => hk.2) (.int .i64 t596)) (fun _ hk => hk.2) (.int .i64 t597)) (fun _ hk => hk.2) (.int .i64 t598)) (fun _ h_ => h_.1))) hb); replace HO591 := Aside0.mk (Kd.vI cq10 (Kd.vS ho0) hb); replace BK567 := tBlkF BK567 hb; replace BK571 := tBlkF BK571 hb; replace BK579 := tBlkF BK579 hb; replace BK587 := tBlkF BK587 hb; replace BK599 := tBlkP BK599 #[.int .i64 t592, .int .i64 t593, .int .i64 t594, .int .i64 t595, .int .i64 t596, .int .i64 t597, .int .i64 t598] hb; replace HB := vB HB hb; (try clear hb); (try clear ho0); obtain ⟨hcz118_0, hcz118_1, hcz118_2, hcz118_3, hcz118_4, hcz118_5, hcz118_6, hfz118_0, hfz118_1, hfz118_2, hfz118_3, hfz118_4, hfz118_5, hfz118_6⟩ := cz7 BK599) | ((with_reducible refine uF (f := 40) rfl ?_); refine uX (some 134) Try.func40 #[.slice Ao116 t589.length co116, .agg #[.int .i64 t592, .int .i64 t593, .int .i64 t594, .int .i64 t595, .int .i64 t596, .int .i64 t597, .int .i64 t598]] ?_; (with_reducible refine (spec_AppendEntry.calls kj28 _ _ t589 t592 t593 t594 t595 t596 t597 t598 t604 t607 _ ?side1 ?side2 A86.out).mono ?_); (case side1 => exact cq118); (case side2 => exact (Kd.uK HO591.out).2.1); rintro e w119 ⟨v605, rfl, ho0, hb⟩; refine ⟨_, rfl, ?_⟩; have HO606 := Aside0.mk (Kd.uS (Kd.R_newB (Kd.vT (Kd.vT ho0 (Kd.R_lt (uZ HO591.out))) (Kd.R_lt (uZ HO602.out))) (g := gb599) (o := .cells #[.int .i64 t592, .int .i64 t593, .int .i64 t594, .int .i64 t595, .int .i64 t596, .int .i64 t597, .int .i64 t598] 72 (0, 0)) (rSB BK599.out)) (uO vA)); replace HO_580000 := Kd.tR HO_580000 hb; replace HO_580001 := Kd.tR HO_580001 hb; replace HO_588000 := Kd.tR HO_588000 hb; replace HO_588001 := Kd.tR HO_588001 hb; replace HO591 := Aside0.mk (Kd.vI (uZ HO591.out) (Kd.vS ho0) hb); replace HO602 := Aside0.mk (Kd.vI (uZ HO602.out) (Kd.vS ho0) hb); replace BK567 := uP BK567 hb; replace BK571 := uP BK571 hb; replace BK579 := uP BK579 hb; replace BK587 := uP BK587 hb; replace BK599 := uP BK599 hb; replace HB := vB HB hb; (try clear hb); (try clear ho0); obtain ⟨Ao120, co120, eo120⟩ := Kd.uY HO602.out; subst eo120; obtain ⟨Ao121, co121, eo121⟩ := Kd.uY HO606.out; subst eo121) | (go_at_call 36; (with_reducible refine (impl_IsPrefix.calls kj28 _ _ t600 _ _ t604 true _ ?side1 ?side2 ?side3 ?side4 A89.out).mono ?_); (case side1 => exact cq72); (case side2 => exact (Kd.uK HO602.out).2.1); (case side3 => repeat (first | exact (Kd.uK HO606.out).2.2 | (with_reducible refine Kd.vW ?_ _) | (with_reducible refine Kd.vV ?_ _) | (with_reducible refine Kd.C_drew ?_))); (case side4 => exact (Kd.uK HO606.out).2.1); rintro e w' ⟨rfl, ⟨nd, rfl⟩⟩))
            go_ret
            exact ⟨cq3, vA⟩
          subst c91
          try rw [if_pos rfl] at H
          replace H := Option.bind_eq_some_iff.mp H
          obtain ⟨t609, A920, H⟩ := H
          try dsimp only at H
          have A92 := Aside0.mk A920
          clear A920
          by_cases c93 : t609 = true
          rotate_left
          · replace c93 := Bool.eq_false_iff.mpr c93
            subst c93
            try rw [if_neg (show ¬ (false = true) by decide)] at H
            exact absurd H (by simp)
          subst c93
          try rw [if_pos rfl] at H
          replace H := Option.bind_eq_some_iff.mp H
          obtain ⟨t610, A940, H⟩ := H
          try dsimp only at H
          have A94 := Aside0.mk A940
          clear A940
          have hX_ := Option.some.inj H
          go_wp2_with (first | ((with_reducible refine uF (f := 39) rfl ?_); refine uX (some 128) Try.func39 #[.slice Ao116 t589.length co116, .agg #[.int .i64 t592, .int .i64 t593, .int .i64 t594, .int .i64 t595, .int .i64 t596, .int .i64 t597, .int .i64 t598]] ?_; (with_reducible refine (impl_AppendEntry.calls kj28 _ _ t589 t592 t593 t594 t595 t596 t597 t598 t600 true _ ?side1 ?side2 A85.out).mono ?_); (case side1 => refine (Kd.uK (e := 72) (base := w.heap.size) (ok := fun k_ => (True ∧ k_ ≠ gb599)) (n := t589.length) (c := co116) ?_).2.2; exact cq10); (case side2 => exact (Kd.uK HO591.out).2.1); rintro e w103 ⟨v601, rfl, ho0, hb⟩; refine ⟨_, rfl, ?_⟩; have HO602 := Aside0.mk (Kd.uS (Kd.R_newB (Kd.vT ho0 (Kd.R_lt cq10)) (g := gb599) (o := .cells #[.int .i64 t592, .int .i64 t593, .int .i64 t594, .int .i64 t595, .int .i64 t596, .int .i64 t597, .int .i64 t598] 72 (0, 0)) (by (with_reducible repeat (first | refine uC ?_ _ | refine uE ?_ | refine uD ?_ _)); refine uL (cs := #[.int .i64 t592, .int .i64 t593, .int .i64 t594, .int .i64 t595, .int .i64 t596, .int .i64 t597, .int .i64 0]) ?_ 6 _ rfl; (with_reducible repeat (first | refine uC ?_ _ | refine uE ?_ | refine uD ?_ _)); refine uL (cs := #[.int .i64 t592, .int .i64 t593, .int .i64 t594, .int .i64 t595, .int .i64 t596, .int .i64 0, .int .i64 0]) ?_ 5 _ rfl; (with_reducible repeat (first | refine uC ?_ _ | refine uE ?_ | refine uD ?_ _)); refine uL (cs := #[.int .i64 t592, .int .i64 t593, .int .i64 t594, .int .i64 t595, .int .i64 0, .int .i64 0, .int .i64 0]) ?_ 4 _ rfl; (with_reducible repeat (first | refine uC ?_ _ | refine uE ?_ | refine uD ?_ _)); refine uL (cs := #[.int .i64 t592, .int .i64 t593, .int .i64 t594, .int .i64 0, .int .i64 0, .int .i64 0, .int .i64 0]) ?_ 3 _ rfl; (with_reducible repeat (first | refine uC ?_ _ | refine uE ?_ | refine uD ?_ _)); refine uL (cs := #[.int .i64 t592, .int .i64 t593, .int .i64 0, .int .i64 0, .int .i64 0, .int .i64 0, .int .i64 0]) ?_ 2 _ rfl; (with_reducible repeat (first | refine uC ?_ _ | refine uE ?_ | refine uD ?_ _)); refine uL (cs := #[.int .i64 t592, .int .i64 0, .int .i64 0, .int .i64 0, .int .i64 0, .int .i64 0, .int .i64 0]) ?_ 1 _ rfl; (with_reducible repeat (first | refine uC ?_ _ | refine uE ?_ | refine uD ?_ _)); refine uL (cs := #[.int .i64 0, .int .i64 0, .int .i64 0, .int .i64 0, .int .i64 0, .int .i64 0, .int .i64 0]) ?_ 0 _ rfl; (with_reducible repeat (first | refine uC ?_ _ | refine uE ?_ | refine uD ?_ _)); exact BK599.out)) (uO vA)); replace HO_580000 := Aside0.mk (Kd.R_below (by (with_reducible repeat (first | apply Kd.uQ | apply Kd.uR | apply Kd.uV)); exact (Kd.uN (Kd.uM (p := ⟨gb599, 6, none⟩) (Kd.uM (p := ⟨gb599, 5, none⟩) (Kd.uM (p := ⟨gb599, 4, none⟩) (Kd.uM (p := ⟨gb599, 3, none⟩) (Kd.uM (p := ⟨gb599, 2, none⟩) (Kd.uM (p := ⟨gb599, 1, none⟩) (Kd.uM (p := ⟨gb599, 0, none⟩) (Kd.vG HO_580000.out BK599.out (by decide)) (fun _ hk => hk.2) (.int .i64 t592)) (fun _ hk => hk.2) (.int .i64 t593)) (fun _ hk => hk.2) (.int .i64 t594)) (fun _ hk => hk.2) (.int .i64 t595)) (fun _ hk => hk.2) (.int .i64 t596)) (fun _ hk => hk.2) (.int .i64 t597)) (fun _ hk => hk.2) (.int .i64 t598)) (fun _ h_ => h_.1))) hb); replace HO_580001 := Aside0.mk (Kd.R_below (by (with_reducible repeat (first | apply Kd.uQ | apply Kd.uR | apply Kd.uV)); exact (Kd.uN (Kd.uM (p := ⟨gb599, 6, none⟩) (Kd.uM (p := ⟨gb599, 5, none⟩) (Kd.uM (p := ⟨gb599, 4, none⟩) (Kd.uM (p := ⟨gb599, 3, none⟩) (Kd.uM (p := ⟨gb599, 2, none⟩) (Kd.uM (p := ⟨gb599, 1, none⟩) (Kd.uM (p := ⟨gb599, 0, none⟩) (Kd.vG HO_580001.out BK599.out (by decide)) (fun _ hk => hk.2) (.int .i64 t592)) (fun _ hk => hk.2) (.int .i64 t593)) (fun _ hk => hk.2) (.int .i64 t594)) (fun _ hk => hk.2) (.int .i64 t595)) (fun _ hk => hk.2) (.int .i64 t596)) (fun _ hk => hk.2) (.int .i64 t597)) (fun _ hk => hk.2) (.int .i64 t598)) (fun _ h_ => h_.1))) hb); replace HO_588000 := Aside0.mk (Kd.R_below (by (with_reducible repeat (first | apply Kd.uQ | apply Kd.uR | apply Kd.uV)); exact (Kd.uN (Kd.uM (p := ⟨gb599, 6, none⟩) (Kd.uM (p := ⟨gb599, 5, none⟩) (Kd.uM (p := ⟨gb599, 4, none⟩) (Kd.uM (p := ⟨gb599, 3, none⟩) (Kd.uM (p := ⟨gb599, 2, none⟩) (Kd.uM (p := ⟨gb599, 1, none⟩) (Kd.uM (p := ⟨gb599, 0, none⟩) (Kd.vG HO_588000.out BK599.out (by decide)) (fun _ hk => hk.2) (.int .i64 t592)) (fun _ hk => hk.2) (.int .i64 t593)) (fun _ hk => hk.2) (.int .i64 t594)) (fun _ hk => hk.2) (.int .i64 t595)) (fun _ hk => hk.2) (.int .i64 t596)) (fun _ hk => hk.2) (.int .i64 t597)) (fun _ hk => hk.2) (.int .i64 t598)) (fun _ h_ => h_.1))) hb); replace HO_588001 := Aside0.mk (Kd.R_below (by (with_reducible repeat (first | apply Kd.uQ | apply Kd.uR | apply Kd.uV)); exact (Kd.uN (Kd.uM (p := ⟨gb599, 6, none⟩) (Kd.uM (p := ⟨gb599, 5, none⟩) (Kd.uM (p := ⟨gb599, 4, none⟩) (Kd.uM (p := ⟨gb599, 3, none⟩) (Kd.uM (p := ⟨gb599, 2, none⟩) (Kd.uM (p := ⟨gb599, 1, none⟩) (Kd.uM (p := ⟨gb599, 0, none⟩) (Kd.vG HO_588001.out BK599.out (by decide)) (fun _ hk => hk.2) (.int .i64 t592)) (fun _ hk => hk.2) (.int .i64 t593)) (fun _ hk => hk.2) (.int .i64 t594)) (fun _ hk => hk.2) (.int .i64 t595)) (fun _ hk => hk.2) (.int .i64 t596)) (fun _ hk => hk.2) (.int .i64 t597)) (fun _ hk => hk.2) (.int .i64 t598)) (fun _ h_ => h_.1))) hb); replace HO591 := Aside0.mk (Kd.vI cq10 (Kd.vS ho0) hb); replace BK567 := tBlkF BK567 hb; replace BK571 := tBlkF BK571 hb; replace BK579 := tBlkF BK579 hb; replace BK587 := tBlkF BK587 hb; replace BK599 := tBlkP BK599 #[.int .i64 t592, .int .i64 t593, .int .i64 t594, .int .i64 t595, .int .i64 t596, .int .i64 t597, .int .i64 t598] hb; replace HB := vB HB hb; (try clear hb); (try clear ho0); obtain ⟨hcz104_0, hcz104_1, hcz104_2, hcz104_3, hcz104_4, hcz104_5, hcz104_6, hfz104_0, hfz104_1, hfz104_2, hfz104_3, hfz104_4, hfz104_5, hfz104_6⟩ := cz7 BK599) | ((with_reducible refine uF (f := 40) rfl ?_); refine uX (some 134) Try.func40 #[.slice Ao116 t589.length co116, .agg #[.int .i64 t592, .int .i64 t593, .int .i64 t594, .int .i64 t595, .int .i64 t596, .int .i64 t597, .int .i64 t598]] ?_; (with_reducible refine (spec_AppendEntry.calls kj28 _ _ t589 t592 t593 t594 t595 t596 t597 t598 t604 t607 _ ?side1 ?side2 A86.out).mono ?_); (case side1 => exact cq118); (case side2 => exact (Kd.uK HO591.out).2.1); rintro e w105 ⟨v605, rfl, ho0, hb⟩; refine ⟨_, rfl, ?_⟩; have HO606 := Aside0.mk (Kd.uS (Kd.R_newB (Kd.vT (Kd.vT ho0 (Kd.R_lt (uZ HO591.out))) (Kd.R_lt (uZ HO602.out))) (g := gb599) (o := .cells #[.int .i64 t592, .int .i64 t593, .int .i64 t594, .int .i64 t595, .int .i64 t596, .int .i64 t597, .int .i64 t598] 72 (0, 0)) (rSB BK599.out)) (uO vA)); replace HO_580000 := Kd.tR HO_580000 hb; replace HO_580001 := Kd.tR HO_580001 hb; replace HO_588000 := Kd.tR HO_588000 hb; replace HO_588001 := Kd.tR HO_588001 hb; replace HO591 := Aside0.mk (Kd.vI (uZ HO591.out) (Kd.vS ho0) hb); replace HO602 := Aside0.mk (Kd.vI (uZ HO602.out) (Kd.vS ho0) hb); replace BK567 := uP BK567 hb; replace BK571 := uP BK571 hb; replace BK579 := uP BK579 hb; replace BK587 := uP BK587 hb; replace BK599 := uP BK599 hb; replace HB := vB HB hb; (try clear hb); (try clear ho0); obtain ⟨Ao106, co106, eo106⟩ := Kd.uY HO602.out; subst eo106; obtain ⟨Ao107, co107, eo107⟩ := Kd.uY HO606.out; subst eo107) | (go_at_call 36; (with_reducible refine (impl_IsPrefix.calls kj28 _ _ t600 _ _ t604 true _ ?side1 ?side2 ?side3 ?side4 A89.out).mono ?_); (case side1 => exact cq72); (case side2 => exact (Kd.uK HO602.out).2.1); (case side3 => repeat (first | exact (Kd.uK HO606.out).2.2 | (with_reducible refine Kd.vW ?_ _) | (with_reducible refine Kd.vV ?_ _) | (with_reducible refine Kd.C_drew ?_))); (case side4 => exact (Kd.uK HO606.out).2.1); rintro e w' ⟨rfl, ⟨nd, rfl⟩⟩) | (go_at_call 41; (with_reducible refine (impl_IsLog.calls kj28 _ _ t600 true _ ?side1 ?side2 A92.out).mono ?_); (case side1 => exact cq72); (case side2 => exact (Kd.uK HO602.out).2.1); rintro e w108 ⟨rfl, hb⟩; replace HO_580000 := Kd.tR HO_580000 hb; replace HO_580001 := Kd.tR HO_580001 hb; replace HO_588000 := Kd.tR HO_588000 hb; replace HO_588001 := Kd.tR HO_588001 hb; replace HO591 := Kd.tR HO591 hb; replace HO602 := Kd.tR HO602 hb; replace HO606 := Kd.tR HO606 hb; replace BK567 := uP BK567 hb; replace BK571 := uP BK571 hb; replace BK579 := uP BK579 hb; replace BK587 := uP BK587 hb; replace BK599 := uP BK599 hb; replace HB := vB HB hb; (try clear hb)) | (go_at_call 36; (with_reducible refine (impl_IsPrefix.calls kj28 _ _ t589 _ _ t600 t610 _ ?side1 ?side2 ?side3 ?side4 A94.out).mono ?_); (case side1 => exact cq118); (case side2 => exact (Kd.uK HO591.out).2.1); (case side3 => exact cq72); (case side4 => exact (Kd.uK HO602.out).2.1); rintro e w' ⟨rfl, ⟨nd, rfl⟩⟩))
          go_ret
          exact ⟨cq3, vA⟩

end Go.Proofs.Ytcikahnmiiichaa.N
