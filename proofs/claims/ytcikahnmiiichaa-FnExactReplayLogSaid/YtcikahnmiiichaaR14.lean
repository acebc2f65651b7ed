/- Go functions as Lean functions, and the proof that the code comes to them: written by a program of this session out of the translation. -/
import Derived.Test.YtcikahnmiiichaaR0
import Derived.Test.YtcikahnmiiichaaR1
import Derived.Test.YtcikahnmiiichaaR2
import Derived.Test.YtcikahnmiiichaaR3
import Derived.Test.YtcikahnmiiichaaR8
import Derived.Test.YtcikahnmiiichaaR12
import Derived.Test.YtcikahnmiiichaaR13
namespace Go.Proofs.Ytcikahnmiiichaa.R
open List renaming setIfInBounds_toArray → vS, set_cons_zero → vT, set_cons_succ → vU, map_toArray → vV, length_take → vW, length_drop → vX
open Go.World renaming block_lt_of_cell? → vY
open Go.RowKit Go.Proofs.YtcikahnmiiichaaW.PrintWords Go.Proofs.YtcikahnmiiichaaW.PrintLast Go.Proofs.YtcikahnmiiichaaW.PrintMore
attribute [local go_sem] max2_int min2_int max_two min_two max_three min_three max_four min_four   -- for this text's walks alone
set_option linter.unusedVariables false
set_option linter.unusedSimpArgs false

/-! ### laws_FnExactReplayLog: function 6 -/
mutual
def laws_FnExactReplayLog.j0 : Nat → List (S97) → Bool → List (S72) → Bool → Bool → List Int → List (S49) → List Int → List (S49) → Option (Bool)
  | 0, _, _, _, _, _, _, _, _, _ => none
  | k + 1, x0, x5, x6, x8, x40, x275000, x275001, x286000, x286001 => if x40 = true then (some false) else ((laws_toEntryS.f k x0).bind fun t287 => ((laws_eqEntryS.f k x6 t287).bind fun t290 => (if t290 = true then ((laws_markEntryS.f k x6 1).bind fun bt291 => (if bt291.1 < 0 then (laws_FnExactReplayLog.j1 k x0 x5 true x275000 x275001 x286000 x286001) else ((laws_eqMachine.f k x286000 x286001 x275000 x275001).bind fun t293 => (if t293 = true then (laws_FnExactReplayLog.j1 k x0 x5 (x8 != x5) x275000 x275001 x286000 x286001) else (laws_FnExactReplayLog.j1 k x0 x5 true x275000 x275001 x286000 x286001))))) else (some false))))
def laws_FnExactReplayLog.j1 : Nat → List (S97) → Bool → Bool → List Int → List (S49) → List Int → List (S49) → Option (Bool)
  | 0, _, _, _, _, _, _, _ => none
  | k + 1, x0, x5, x61, x275000, x275001, x286000, x286001 => if x61 = true then (some false) else ((laws_markMachine.f k x286000 x286001 1).bind fun bt294 => ((laws_heldMachine.f k bt294.2.1 bt294.2.2 1).bind fun t297 => (if t297 < 0 then (some false) else (if t297 = bt294.1 then ((laws_toEntryS.f k x0).bind fun t298 => ((impl_ReplayLog.f k t298).bind fun bt301 => ((laws_eqMachine.f k bt301.1 bt301.2.1 x275000 x275001).bind fun t309 => (if t309 = true then (laws_FnExactReplayLog.j2 k bt294.1 (bt301.2.2 != x5) bt294.2.1 bt294.2.2) else (laws_FnExactReplayLog.j2 k bt294.1 true bt294.2.1 bt294.2.2))))) else (some false)))))
def laws_FnExactReplayLog.j2 : Nat → Int → Bool → List Int → List (S49) → Option (Bool)
  | 0, _, _, _, _ => none
  | k + 1, x10, x87, x286000, x286001 => if x87 = true then (some false) else ((laws_heldMachine.f k x286000 x286001 1).bind fun t310 => (if t310 < 0 then (some false) else (if t310 = x10 then (some true) else (some false))))
end
def laws_FnExactReplayLog.f (k : Nat) (l0 : List (S97)) : Option (Bool) := (laws_szEntryS.f l0 1048576).bind fun t263 => (if t263 < 0 then (some true) else ((laws_toEntryS.f k l0).bind fun t264 => ((spec_ReplayLog.f k t264).bind fun bt267 => ((laws_toEntryS.f k l0).bind fun t275 => ((impl_ReplayLog.f k t275).bind fun bt278 => ((laws_eqMachine.f k bt278.1 bt278.2.1 bt267.1 bt267.2.1).bind fun t286 => (if t286 = true then (laws_FnExactReplayLog.j0 k l0 bt267.2.2 t275 bt278.2.2 (bt278.2.2 != bt267.2.2) bt267.1 bt267.2.1 bt278.1 bt278.2.1) else (laws_FnExactReplayLog.j0 k l0 bt267.2.2 t275 bt278.2.2 true bt267.1 bt267.2.1 bt278.1 bt278.2.1))))))))
theorem laws_FnExactReplayLog.mono_l : ∀ k, (∀ y0 y1 y2 y3 y4 y5 y6 y7 y8, uV (laws_FnExactReplayLog.j0 k y0 y1 y2 y3 y4 y5 y6 y7 y8) (laws_FnExactReplayLog.j0 (k + 1) y0 y1 y2 y3 y4 y5 y6 y7 y8)) ∧ (∀ y0 y1 y2 y3 y4 y5 y6, uV (laws_FnExactReplayLog.j1 k y0 y1 y2 y3 y4 y5 y6) (laws_FnExactReplayLog.j1 (k + 1) y0 y1 y2 y3 y4 y5 y6)) ∧ (∀ y0 y1 y2 y3, uV (laws_FnExactReplayLog.j2 k y0 y1 y2 y3) (laws_FnExactReplayLog.j2 (k + 1) y0 y1 y2 y3))
  | 0 => ⟨fun _ _ _ _ _ _ _ _ _ r h => by simp [laws_FnExactReplayLog.j0] at h, fun _ _ _ _ _ _ _ r h => by simp [laws_FnExactReplayLog.j1] at h, fun _ _ _ _ r h => by simp [laws_FnExactReplayLog.j2] at h⟩
  | k + 1 => by
    obtain ⟨ih0, ih1, ih2⟩ := laws_FnExactReplayLog.mono_l k
    refine ⟨?_, ?_, ?_⟩
    · intro y0 y1 y2 y3 y4 y5 y6 y7 y8
      unfold laws_FnExactReplayLog.j0
      repeat' first
      | (with_reducible exact ih0 _ _ _ _ _ _ _ _ _)
      | (with_reducible exact ih1 _ _ _ _ _ _ _)
      | (with_reducible exact ih2 _ _ _ _)
      | (with_reducible exact impl_ReplayLog.mono _ _)
      | (with_reducible exact laws_eqEntryS.mono _ _ _)
      | (with_reducible exact laws_eqMachine.mono _ _ _ _ _)
      | (with_reducible exact laws_heldMachine.mono _ _ _ _)
      | (with_reducible exact laws_markEntryS.mono _ _ _)
      | (with_reducible exact laws_markMachine.mono _ _ _ _)
      | (with_reducible exact laws_toEntryS.mono _ _)
      | (with_reducible exact spec_ReplayLog.mono _ _)
      | (with_reducible exact uV.refl _)
      | (with_reducible exact uV.none _)
      | (with_reducible refine uV.ite ?_ ?_)
      | (with_reducible refine uV.bind ?_ (fun _ => ?_))
      | exact ih0 _ _ _ _ _ _ _ _ _
      | exact ih1 _ _ _ _ _ _ _
      | exact ih2 _ _ _ _
      | exact impl_ReplayLog.mono _ _
      | exact laws_eqEntryS.mono _ _ _
      | exact laws_eqMachine.mono _ _ _ _ _
      | exact laws_heldMachine.mono _ _ _ _
      | exact laws_markEntryS.mono _ _ _
      | exact laws_markMachine.mono _ _ _ _
      | exact laws_toEntryS.mono _ _
      | exact spec_ReplayLog.mono _ _
      | exact uV.none _
      | refine uV.ite ?_ ?_
      | refine uV.bind ?_ (fun _ => ?_)
    · intro y0 y1 y2 y3 y4 y5 y6
      unfold laws_FnExactReplayLog.j1
      repeat' first
      | (with_reducible exact ih0 _ _ _ _ _ _ _ _ _)
      | (with_reducible exact ih1 _ _ _ _ _ _ _)
      | (with_reducible exact ih2 _ _ _ _)
      | (with_reducible exact impl_ReplayLog.mono _ _)
      | (with_reducible exact laws_eqEntryS.mono _ _ _)
      | (with_reducible exact laws_eqMachine.mono _ _ _ _ _)
      | (with_reducible exact laws_heldMachine.mono _ _ _ _)
      | (with_reducible exact laws_markEntryS.mono _ _ _)
      | (with_reducible exact laws_markMachine.mono _ _ _ _)
      | (with_reducible exact laws_toEntryS.mono _ _)
      | (with_reducible exact spec_ReplayLog.mono _ _)
      | (with_reducible exact uV.refl _)
      | (with_reducible exact uV.none _)
      | (with_reducible refine uV.ite ?_ ?_)
      | (with_reducible refine uV.bind ?_ (fun _ => ?_))
      | exact ih0 _ _ _ _ _ _ _ _ _
      | exact ih1 _ _ _ _ _ _ _
      | exact ih2 _ _ _ _
      | exact impl_ReplayLog.mono _ _
      | exact laws_eqEntryS.mono _ _ _
      | exact laws_eqMachine.mono _ _ _ _ _
      | exact laws_heldMachine.mono _ _ _ _
      | exact laws_markEntryS.mono _ _ _
      | exact laws_markMachine.mono _ _ _ _
      | exact laws_toEntryS.mono _ _
      | exact spec_ReplayLog.mono _ _
      | exact uV.none _
      | refine uV.ite ?_ ?_
      | refine uV.bind ?_ (fun _ => ?_)
    intro y0 y1 y2 y3
    unfold laws_FnExactReplayLog.j2
    repeat' first
    | (with_reducible exact ih0 _ _ _ _ _ _ _ _ _)
    | (with_reducible exact ih1 _ _ _ _ _ _ _)
    | (with_reducible exact ih2 _ _ _ _)
    | (with_reducible exact impl_ReplayLog.mono _ _)
    | (with_reducible exact laws_eqEntryS.mono _ _ _)
    | (with_reducible exact laws_eqMachine.mono _ _ _ _ _)
    | (with_reducible exact laws_heldMachine.mono _ _ _ _)
    | (with_reducible exact laws_markEntryS.mono _ _ _)
    | (with_reducible exact laws_markMachine.mono _ _ _ _)
    | (with_reducible exact laws_toEntryS.mono _ _)
    | (with_reducible exact spec_ReplayLog.mono _ _)
    | (with_reducible exact uV.refl _)
    | (with_reducible exact uV.none _)
    | (with_reducible refine uV.ite ?_ ?_)
    | (with_reducible refine uV.bind ?_ (fun _ => ?_))
    | exact ih0 _ _ _ _ _ _ _ _ _
    | exact ih1 _ _ _ _ _ _ _
    | exact ih2 _ _ _ _
    | exact impl_ReplayLog.mono _ _
    | exact laws_eqEntryS.mono _ _ _
    | exact laws_eqMachine.mono _ _ _ _ _
    | exact laws_heldMachine.mono _ _ _ _
    | exact laws_markEntryS.mono _ _ _
    | exact laws_markMachine.mono _ _ _ _
    | exact laws_toEntryS.mono _ _
    | exact spec_ReplayLog.mono _ _
    | exact uV.none _
    | refine uV.ite ?_ ?_
    | refine uV.bind ?_ (fun _ => ?_)
theorem laws_FnExactReplayLog.mono : ∀ a0 k, uV (laws_FnExactReplayLog.f k a0) (laws_FnExactReplayLog.f (k + 1) a0) := by
  intro a0 k
  obtain ⟨ih0, ih1, ih2⟩ := laws_FnExactReplayLog.mono_l k
  unfold laws_FnExactReplayLog.f
  repeat' first
      | (with_reducible exact ih0 _ _ _ _ _ _ _ _ _)
      | (with_reducible exact ih1 _ _ _ _ _ _ _)
      | (with_reducible exact ih2 _ _ _ _)
      | (with_reducible exact impl_ReplayLog.mono _ _)
      | (with_reducible exact laws_eqEntryS.mono _ _ _)
      | (with_reducible exact laws_eqMachine.mono _ _ _ _ _)
      | (with_reducible exact laws_heldMachine.mono _ _ _ _)
      | (with_reducible exact laws_markEntryS.mono _ _ _)
      | (with_reducible exact laws_markMachine.mono _ _ _ _)
      | (with_reducible exact laws_toEntryS.mono _ _)
      | (with_reducible exact spec_ReplayLog.mono _ _)
      | (with_reducible exact uV.refl _)
      | (with_reducible exact uV.none _)
      | (with_reducible refine uV.ite ?_ ?_)
      | (with_reducible refine uV.bind ?_ (fun _ => ?_))
      | exact ih0 _ _ _ _ _ _ _ _ _
      | exact ih1 _ _ _ _ _ _ _
      | exact ih2 _ _ _ _
      | exact impl_ReplayLog.mono _ _
      | exact laws_eqEntryS.mono _ _ _
      | exact laws_eqMachine.mono _ _ _ _ _
      | exact laws_heldMachine.mono _ _ _ _
      | exact laws_markEntryS.mono _ _ _
      | exact laws_markMachine.mono _ _ _ _
      | exact laws_toEntryS.mono _ _
      | exact spec_ReplayLog.mono _ _
      | exact uV.none _
      | refine uV.ite ?_ ?_
      | refine uV.bind ?_ (fun _ => ?_)
set_option maxHeartbeats 8000000 in
set_option maxRecDepth 100000 in
theorem laws_FnExactReplayLog.calls (k : Nat) (A0 : Option Addr) (c0 : Nat) (l0 : List (S97)) (w : World) (hr0 : Kd.C k97 w A0 l0.length l0) (hc0 : l0.length ≤ c0) (h : laws_FnExactReplayLog.f k l0 = some true) :
    Calls Try.prog 6 #[.slice A0 l0.length c0] w fun e w' => e = .returned (.bool true) ∧ Below w.heap.size w w' := by
  have hu31 := Try.underlying31
  have HR0 := Aside0.mk hr0
  have HC0 := Aside0.mk hc0
  clear hr0 hc0
  have HB := Aside0.mk (Below.refl w.heap.size w)
  have H : ((laws_szEntryS.f l0 1048576).bind fun t263 => (if t263 < 0 then (some true) else ((laws_toEntryS.f k l0).bind fun t264 => ((spec_ReplayLog.f k t264).bind fun bt267 => ((laws_toEntryS.f k l0).bind fun t275 => ((impl_ReplayLog.f k t275).bind fun bt278 => ((laws_eqMachine.f k bt278.1 bt278.2.1 bt267.1 bt267.2.1).bind fun t286 => (if t286 = true then (laws_FnExactReplayLog.j0 k l0 bt267.2.2 t275 bt278.2.2 (bt278.2.2 != bt267.2.2) bt267.1 bt267.2.1 bt278.1 bt278.2.1) else (laws_FnExactReplayLog.j0 k l0 bt267.2.2 t275 bt278.2.2 true bt267.1 bt267.2.1 bt278.1 bt278.2.1))))))))) = some true := h
  clear h
  replace H := Option.bind_eq_some_iff.mp H
  obtain ⟨t263, A20, H⟩ := H
  replace H : (if t263 < 0 then (some true) else ((laws_toEntryS.f k l0).bind fun t264 => ((spec_ReplayLog.f k t264).bind fun bt267 => ((laws_toEntryS.f k l0).bind fun t275 => ((impl_ReplayLog.f k t275).bind fun bt278 => ((laws_eqMachine.f k bt278.1 bt278.2.1 bt267.1 bt267.2.1).bind fun t286 => (if t286 = true then (laws_FnExactReplayLog.j0 k l0 bt267.2.2 t275 bt278.2.2 (bt278.2.2 != bt267.2.2) bt267.1 bt267.2.1 bt278.1 bt278.2.1) else (laws_FnExactReplayLog.j0 k l0 bt267.2.2 t275 bt278.2.2 true bt267.1 bt267.2.1 bt278.1 bt278.2.1)))))))) = some true := H
  have A2 := Aside0.mk A20
  clear A20
  by_cases c3 : t263 < 0
  · rw [if_pos c3] at H
    have c3b0 : decide (t263 < 0) = true := decide_eq_true c3
    clear c3
    go_enter Try.func6, Try.ntmps6
    go_wp2_with (first | ((with_reducible refine uU (f := 25) rfl ?_); refine vE (some 16) rfl rfl Try.func25 (by kernel_rfl) rfl #[.slice A0 l0.length c0, .int .i64 1048576] rfl (by (try simp only [vV, List.map_cons, List.map_nil]); first | done | rfl | (simp only [vX, vW]; rfl)) ?_; (with_reducible refine (laws_szEntryS.calls _ _ l0 1048576 t263 _ ?side1 ?side2 A2.out).mono ?_); (case side1 => repeat (first | exact HR0.out | (with_reducible refine Kd.vL ?_ _) | (with_reducible refine Kd.vM ?_ _) | (with_reducible refine Kd.vN ?_))); (case side2 => exact HC0.out); rintro e w' ⟨rfl, ⟨nd, rfl⟩⟩; refine ⟨_, rfl, ?_⟩))
    go_ret
    exact ⟨by first | rfl | (simp [errW_none, errW_some] <;> rfl) | (simp [*, errW_none, errW_some] <;> rfl), by repeat (first | (with_reducible first | exact HB.out | apply uC | apply uA | apply uB) | exact HB.out)⟩
  rw [if_neg c3] at H
  have c3b0 : decide (t263 < 0) = false := decide_eq_false c3
  clear c3
  replace H := Option.bind_eq_some_iff.mp H
  obtain ⟨t264, A40, H⟩ := H
  replace H : ((spec_ReplayLog.f k t264).bind fun bt267 => ((laws_toEntryS.f k l0).bind fun t275 => ((impl_ReplayLog.f k t275).bind fun bt278 => ((laws_eqMachine.f k bt278.1 bt278.2.1 bt267.1 bt267.2.1).bind fun t286 => (if t286 = true then (laws_FnExactReplayLog.j0 k l0 bt267.2.2 t275 bt278.2.2 (bt278.2.2 != bt267.2.2) bt267.1 bt267.2.1 bt278.1 bt278.2.1) else (laws_FnExactReplayLog.j0 k l0 bt267.2.2 t275 bt278.2.2 true bt267.1 bt267.2.1 bt278.1 bt278.2.1)))))) = some true := H
  have A4 := Aside0.mk A40
  clear A40
  replace H := Option.bind_eq_some_iff.mp H
  obtain ⟨⟨t267, t270, t273⟩, A50, H⟩ := H
  replace H : ((laws_toEntryS.f k l0).bind fun t275 => ((impl_ReplayLog.f k t275).bind fun bt278 => ((laws_eqMachine.f k bt278.1 bt278.2.1 t267 t270).bind fun t286 => (if t286 = true then (laws_FnExactReplayLog.j0 k l0 t273 t275 bt278.2.2 (bt278.2.2 != t273) t267 t270 bt278.1 bt278.2.1) else (laws_FnExactReplayLog.j0 k l0 t273 t275 bt278.2.2 true t267 t270 bt278.1 bt278.2.1))))) = some true := H
  have A5 := Aside0.mk A50
  clear A50
  replace H := Option.bind_eq_some_iff.mp H
  obtain ⟨t275, A60, H⟩ := H
  replace H : ((impl_ReplayLog.f k t275).bind fun bt278 => ((laws_eqMachine.f k bt278.1 bt278.2.1 t267 t270).bind fun t286 => (if t286 = true then (laws_FnExactReplayLog.j0 k l0 t273 t275 bt278.2.2 (bt278.2.2 != t273) t267 t270 bt278.1 bt278.2.1) else (laws_FnExactReplayLog.j0 k l0 t273 t275 bt278.2.2 true t267 t270 bt278.1 bt278.2.1)))) = some true := H
  have A6 := Aside0.mk A60
  clear A60
  replace H := Option.bind_eq_some_iff.mp H
  obtain ⟨⟨t278, t281, t284⟩, A70, H⟩ := H
  replace H : ((laws_eqMachine.f k t278 t281 t267 t270).bind fun t286 => (if t286 = true then (laws_FnExactReplayLog.j0 k l0 t273 t275 t284 (t284 != t273) t267 t270 t278 t281) else (laws_FnExactReplayLog.j0 k l0 t273 t275 t284 true t267 t270 t278 t281))) = some true := H
  have A7 := Aside0.mk A70
  clear A70
  have HC8 := Aside0.mk H
  clear H
  go_enter Try.func6, Try.ntmps6
  go_upto_region 8 with (first | ((with_reducible refine uU (f := 25) rfl ?_); refine vE (some 16) rfl rfl Try.func25 (by kernel_rfl) rfl #[.slice A0 l0.length c0, .int .i64 1048576] rfl (by (try simp only [vV, List.map_cons, List.map_nil]); first | done | rfl | (simp only [vX, vW]; rfl)) ?_; (with_reducible refine (laws_szEntryS.calls _ _ l0 1048576 t263 _ ?side1 ?side2 A2.out).mono ?_); (case side1 => repeat (first | exact HR0.out | (with_reducible refine Kd.vL ?_ _) | (with_reducible refine Kd.vM ?_ _) | (with_reducible refine Kd.vN ?_))); (case side2 => exact HC0.out); rintro e w' ⟨rfl, ⟨nd, rfl⟩⟩; refine ⟨_, rfl, ?_⟩) | ((with_reducible refine uU (f := 27) rfl ?_); refine vE (some 21) rfl rfl Try.func27 (by kernel_rfl) rfl #[.slice A0 l0.length c0] rfl (by (try simp only [vV, List.map_cons, List.map_nil]); first | done | rfl | (simp only [vX, vW]; rfl)) ?_; (with_reducible refine (laws_toEntryS.calls k _ _ l0 t264 _ ?side1 ?side2 A4.out).mono ?_); (case side1 => repeat (first | exact HR0.out | (with_reducible refine Kd.vL ?_ _) | (with_reducible refine Kd.vM ?_ _) | (with_reducible refine Kd.vN ?_))); (case side2 => exact HC0.out); rintro e w9 ⟨v265, rfl, ho0, hb⟩; refine ⟨_, rfl, ?_⟩; have n0_ := Aside0.mk (Kd.vR ho0 (uK (by repeat (first | (with_reducible first | exact HB.out | apply uC | apply uA | apply uB) | exact HB.out)))); have n1_ := Aside0.mk (uP (by repeat (first | (with_reducible first | exact HB.out | apply uC | apply uA | apply uB) | exact HB.out)) hb); clear HB; have HO266 := n0_; have HB := n1_; clear n0_ n1_; (try clear hb); (try clear hb2); (try clear hk); (try clear hi); (try clear ho0); obtain ⟨Ao10, co10, eo10⟩ := Kd.vK HO266.out; subst eo10) | ((with_reducible refine uU (f := 30) rfl ?_); refine vE (some 22) rfl rfl Try.func30 (by kernel_rfl) rfl #[.slice Ao10 t264.length co10] rfl (by (try simp only [vV, List.map_cons, List.map_nil]); first | done | rfl | (simp only [vX, vW]; rfl)) ?_; (with_reducible refine (spec_ReplayLog.calls k _ _ t264 t267 t270 t273 _ ?side1 ?side2 A5.out).mono ?_); (case side1 => repeat (first | exact (Kd.uW HO266.out).2.2 | (with_reducible refine Kd.vL ?_ _) | (with_reducible refine Kd.vM ?_ _) | (with_reducible refine Kd.vN ?_))); (case side2 => exact (Kd.uW HO266.out).2.1); rintro e w11 ⟨v268, v271, rfl, ho0, ho1, hb⟩; refine ⟨_, rfl, ?_⟩; have n0_ := Aside0.mk (Kd.uZ (by (with_reducible repeat (first | apply Kd.uO | apply Kd.uN | apply Kd.uQ)); exact HO266.out) hb); have n1_ := Aside0.mk (Kd.vR ho0 (uK (by repeat (first | (with_reducible first | exact HB.out | apply uC | apply uA | apply uB) | exact HB.out)))); have n2_ := Aside0.mk (Kd.vR ho1 (uK (by repeat (first | (with_reducible first | exact HB.out | apply uC | apply uA | apply uB) | exact HB.out)))); have n3_ := Aside0.mk (uP (by repeat (first | (with_reducible first | exact HB.out | apply uC | apply uA | apply uB) | exact HB.out)) hb); clear HO266; clear HB; have HO266 := n0_; have HO269 := n1_; have HO272 := n2_; have HB := n3_; clear n0_ n1_ n2_ n3_; (try clear hb); (try clear hb2); (try clear hk); (try clear hi); (try clear ho0); (try clear ho1)) | ((with_reducible refine uS (N := 4) rfl ?_); refine uR ?hg (N := 4) ?hd (cs := #[.slice none 0 0, .slice none 0 0]) (t := 31) ?hr ?_; (case hd => rfl); (case hg => rfl); (case hr => first | (go_simp; done) | (go_simp; rfl)); intro gb274 hg w12 hbox hb; have n0_ := Aside0.mk (Kd.uZ (by (with_reducible repeat (first | apply Kd.uO | apply Kd.uN | apply Kd.uQ)); exact HO266.out) hb); have n1_ := Aside0.mk (Kd.uZ (by (with_reducible repeat (first | apply Kd.uO | apply Kd.uN | apply Kd.uQ)); exact HO269.out) hb); have n2_ := Aside0.mk (Kd.uZ (by (with_reducible repeat (first | apply Kd.uO | apply Kd.uN | apply Kd.uQ)); exact HO272.out) hb); have n3_ := Aside0.mk (uP (by repeat (first | (with_reducible first | exact HB.out | apply uC | apply uA | apply uB) | exact HB.out)) hb); have n4_ := Aside0.mk (hbox); have n5_ := Aside0.mk ((by rw [hg]; exact (uK (by repeat (first | (with_reducible first | exact HB.out | apply uC | apply uA | apply uB) | exact HB.out))) : w.heap.size ≤ gb274)); have n6_ := Aside0.mk ((by rw [hg]; exact (uK (by repeat (first | (with_reducible first | exact HB.out | apply uC | apply uA | apply uB) | exact HB.out))) : w.heap.size ≤ gb274)); clear HO266; clear HO269; clear HO272; clear HB; have HO266 := n0_; have HO269 := n1_; have HO272 := n2_; have HB := n3_; have BK274 := n4_; have GW274 := n5_; have GE274 := n6_; clear n0_ n1_ n2_ n3_ n4_ n5_ n6_; clear hb hbox hg; obtain ⟨Ao13, co13, eo13⟩ := Kd.vK HO269.out; subst eo13; have hcz14_0 : w12.cell? ⟨gb274, 0, none⟩ = some (.slice none 0 0) := (uE BK274.out 0).trans rfl; have hcz14_1 : w12.cell? ⟨gb274, 1, none⟩ = some (.slice none 0 0) := (uE BK274.out 1).trans rfl; have hfz14_0 := uD BK274.out 0; have hfz14_1 := uD BK274.out 1; obtain ⟨Ao15, co15, eo15⟩ := Kd.vK HO272.out; subst eo15) | ((with_reducible refine uU (f := 27) rfl ?_); refine vE (some 26) rfl rfl Try.func27 (by kernel_rfl) rfl #[.slice A0 l0.length c0] rfl (by (try simp only [vV, List.map_cons, List.map_nil]); first | done | rfl | (simp only [vX, vW]; rfl)) ?_; (with_reducible refine (laws_toEntryS.calls k _ _ l0 t275 _ ?side1 ?side2 A6.out).mono ?_); (case side1 => exact Kd.vC HR0.out (by repeat (first | (with_reducible first | exact HB.out | apply uC | apply uA | apply uB | refine uF ?_ GE274.out) | exact HB.out))); (case side2 => exact HC0.out); rintro e w16 ⟨v276, rfl, ho0, hb⟩; refine ⟨_, rfl, ?_⟩; have n0_ := Aside0.mk (Kd.R_elder' (by (with_reducible repeat (first | apply Kd.uO | apply Kd.uN | apply Kd.uQ)); exact (Kd.uY (Kd.uX (p := ⟨gb274, 1, none⟩) (Kd.uX (p := ⟨gb274, 0, none⟩) (Kd.vH HO266.out BK274.out (by decide)) (fun _ hk => hk.2) (.slice Ao13 t267.length co13)) (fun _ hk => hk.2) (.slice Ao15 t270.length co15)) (fun _ h_ => h_.1))) (Kd.R_base ho0) hb); have n1_ := Aside0.mk (Kd.uZ (by (with_reducible repeat (first | apply Kd.uO | apply Kd.uN | apply Kd.uQ)); exact (Kd.uY (Kd.uX (p := ⟨gb274, 1, none⟩) (Kd.uX (p := ⟨gb274, 0, none⟩) (Kd.vH HO269.out BK274.out (by decide)) (fun _ hk => hk.2) (.slice Ao13 t267.length co13)) (fun _ hk => hk.2) (.slice Ao15 t270.length co15)) (fun _ h_ => h_.1))) hb); have n2_ := Aside0.mk (Kd.uZ (by (with_reducible repeat (first | apply Kd.uO | apply Kd.uN | apply Kd.uQ)); exact (Kd.uY (Kd.uX (p := ⟨gb274, 1, none⟩) (Kd.uX (p := ⟨gb274, 0, none⟩) (Kd.vH HO272.out BK274.out (by decide)) (fun _ hk => hk.2) (.slice Ao13 t267.length co13)) (fun _ hk => hk.2) (.slice Ao15 t270.length co15)) (fun _ h_ => h_.1))) hb); have n3_ := Aside0.mk (Kd.vR (Kd.R_new' ho0 (Kd.R_lt (by (with_reducible repeat (first | apply Kd.uO | apply Kd.uN | apply Kd.uQ)); exact (Kd.uY (Kd.uX (p := ⟨gb274, 1, none⟩) (Kd.uX (p := ⟨gb274, 0, none⟩) (Kd.vH HO266.out BK274.out (by decide)) (fun _ hk => hk.2) (.slice Ao13 t267.length co13)) (fun _ hk => hk.2) (.slice Ao15 t270.length co15)) (fun _ h_ => h_.1))))) (uK (by repeat (first | (with_reducible first | exact HB.out | apply uC | apply uA | apply uB | refine uF ?_ GE274.out) | exact HB.out)))); have n4_ := Aside0.mk (uT (g := gb274) (o := .cells #[.slice Ao13 t267.length co13, .slice Ao15 t270.length co15] 31 (0, 0)) (by (with_reducible repeat (first | refine uG ?_ _ | refine uI ?_ | refine uH ?_ _)); refine vB (cs := #[.slice Ao13 t267.length co13, .slice none 0 0]) ?_ 1 _ rfl; (with_reducible repeat (first | refine uG ?_ _ | refine uI ?_ | refine uH ?_ _)); refine vB (cs := #[.slice none 0 0, .slice none 0 0]) ?_ 0 _ rfl; (with_reducible repeat (first | refine uG ?_ _ | refine uI ?_ | refine uH ?_ _)); exact BK274.out) hb); have n5_ := Aside0.mk (uP (by repeat (first | (with_reducible first | exact HB.out | apply uC | apply uA | apply uB | refine uF ?_ GE274.out) | exact HB.out)) hb); clear HO266; clear HO269; clear HO272; clear BK274; clear HB; have HO266 := n0_; have HO269 := n1_; have HO272 := n2_; have HO277 := n3_; have BK274 := n4_; have HB := n5_; clear n0_ n1_ n2_ n3_ n4_ n5_; (try clear hb); (try clear hb2); (try clear hk); (try clear hi); (try clear ho0); obtain ⟨Ao17, co17, eo17⟩ := Kd.vK HO277.out; subst eo17) | ((with_reducible refine uU (f := 31) rfl ?_); refine vE (some 29) rfl rfl Try.func31 (by kernel_rfl) rfl #[.slice Ao17 t275.length co17] rfl (by (try simp only [vV, List.map_cons, List.map_nil]); first | done | rfl | (simp only [vX, vW]; rfl)) ?_; (with_reducible refine (impl_ReplayLog.calls k _ _ t275 t278 t281 t284 _ ?side1 ?side2 A7.out).mono ?_); (case side1 => repeat (first | exact (Kd.uW HO277.out).2.2 | (with_reducible refine Kd.vL ?_ _) | (with_reducible refine Kd.vM ?_ _) | (with_reducible refine Kd.vN ?_))); (case side2 => exact (Kd.uW HO277.out).2.1); rintro e w18 ⟨v279, v282, rfl, ho0, ho1, hb⟩; refine ⟨_, rfl, ?_⟩; have n0_ := Aside0.mk (Kd.uZ (by (with_reducible repeat (first | apply Kd.uO | apply Kd.uN | apply Kd.uQ)); exact HO266.out) hb); have n1_ := Aside0.mk (Kd.R_elder' (by (with_reducible repeat (first | apply Kd.uO | apply Kd.uN | apply Kd.uQ)); exact HO269.out) (Kd.R_base ho0) hb); have n2_ := Aside0.mk (Kd.R_elder' (by (with_reducible repeat (first | apply Kd.uO | apply Kd.uN | apply Kd.uQ)); exact HO272.out) (Kd.R_base ho1) hb); have n3_ := Aside0.mk (Kd.uZ (by (with_reducible repeat (first | apply Kd.uO | apply Kd.uN | apply Kd.uQ)); exact HO277.out) hb); have n4_ := Aside0.mk (Kd.vR (Kd.R_new' ho0 (Kd.R_lt (by (with_reducible repeat (first | apply Kd.uO | apply Kd.uN | apply Kd.uQ)); exact HO269.out))) (uK (by repeat (first | (with_reducible first | exact HB.out | apply uC | apply uA | apply uB | refine uF ?_ GE274.out) | exact HB.out)))); have n5_ := Aside0.mk (Kd.vR (Kd.R_new' ho1 (Kd.R_lt (by (with_reducible repeat (first | apply Kd.uO | apply Kd.uN | apply Kd.uQ)); exact HO272.out))) (uK (by repeat (first | (with_reducible first | exact HB.out | apply uC | apply uA | apply uB | refine uF ?_ GE274.out) | exact HB.out)))); have n6_ := Aside0.mk (uT (g := gb274) (o := .cells #[.slice Ao13 t267.length co13, .slice Ao15 t270.length co15] 31 (0, 0)) (by (with_reducible repeat (first | refine uG ?_ _ | refine uI ?_ | refine uH ?_ _)); exact BK274.out) hb); have n7_ := Aside0.mk (uP (by repeat (first | (with_reducible first | exact HB.out | apply uC | apply uA | apply uB | refine uF ?_ GE274.out) | exact HB.out)) hb); clear HO266; clear HO269; clear HO272; clear HO277; clear BK274; clear HB; have HO266 := n0_; have HO269 := n1_; have HO272 := n2_; have HO277 := n3_; have HO280 := n4_; have HO283 := n5_; have BK274 := n6_; have HB := n7_; clear n0_ n1_ n2_ n3_ n4_ n5_ n6_ n7_; (try clear hb); (try clear hb2); (try clear hk); (try clear hi); (try clear ho0); (try clear ho1)) | ((with_reducible refine uS (N := 7) rfl ?_); refine uR ?hg (N := 7) ?hd (cs := #[.slice none 0 0, .slice none 0 0]) (t := 31) ?hr ?_; (case hd => rfl); (case hg => rfl); (case hr => first | (go_simp; done) | (go_simp; rfl)); intro gb285 hg w19 hbox hb; have n0_ := Aside0.mk (Kd.uZ (by (with_reducible repeat (first | apply Kd.uO | apply Kd.uN | apply Kd.uQ)); exact HO266.out) hb); have n1_ := Aside0.mk (Kd.uZ (by (with_reducible repeat (first | apply Kd.uO | apply Kd.uN | apply Kd.uQ)); exact HO269.out) hb); have n2_ := Aside0.mk (Kd.uZ (by (with_reducible repeat (first | apply Kd.uO | apply Kd.uN | apply Kd.uQ)); exact HO272.out) hb); have n3_ := Aside0.mk (Kd.uZ (by (with_reducible repeat (first | apply Kd.uO | apply Kd.uN | apply Kd.uQ)); exact HO277.out) hb); have n4_ := Aside0.mk (Kd.uZ (by (with_reducible repeat (first | apply Kd.uO | apply Kd.uN | apply Kd.uQ)); exact HO280.out) hb); have n5_ := Aside0.mk (Kd.uZ (by (with_reducible repeat (first | apply Kd.uO | apply Kd.uN | apply Kd.uQ)); exact HO283.out) hb); have n6_ := Aside0.mk (uT (g := gb274) (o := .cells #[.slice Ao13 t267.length co13, .slice Ao15 t270.length co15] 31 (0, 0)) (by (with_reducible repeat (first | refine uG ?_ _ | refine uI ?_ | refine uH ?_ _)); exact BK274.out) hb); have n7_ := Aside0.mk (uP (by repeat (first | (with_reducible first | exact HB.out | apply uC | apply uA | apply uB | refine uF ?_ GE274.out) | exact HB.out)) hb); have n8_ := Aside0.mk (hbox); have n9_ := Aside0.mk ((by rw [hg]; exact (uK (by repeat (first | (with_reducible first | exact HB.out | apply uC | apply uA | apply uB | refine uF ?_ GE274.out) | exact HB.out))) : w.heap.size ≤ gb285)); have n10_ := Aside0.mk ((by rw [hg]; exact (uK (by repeat (first | (with_reducible first | exact HB.out | apply uC | apply uA | apply uB | refine uF ?_ GE274.out) | exact HB.out))) : w.heap.size ≤ gb285)); have n11_ := Aside0.mk ((by rw [hg]; exact Nat.ne_of_lt (vG (g := gb274) (o := .cells #[.slice Ao13 t267.length co13, .slice Ao15 t270.length co15] 31 (0, 0)) (by (with_reducible repeat (first | refine uG ?_ _ | refine uI ?_ | refine uH ?_ _)); exact BK274.out)) : gb274 ≠ gb285)); have n12_ := Aside0.mk ((by rw [hg]; exact Nat.ne_of_gt (vG (g := gb274) (o := .cells #[.slice Ao13 t267.length co13, .slice Ao15 t270.length co15] 31 (0, 0)) (by (with_reducible repeat (first | refine uG ?_ _ | refine uI ?_ | refine uH ?_ _)); exact BK274.out)) : gb285 ≠ gb274)); clear HO266; clear HO269; clear HO272; clear HO277; clear HO280; clear HO283; clear BK274; clear HB; have HO266 := n0_; have HO269 := n1_; have HO272 := n2_; have HO277 := n3_; have HO280 := n4_; have HO283 := n5_; have BK274 := n6_; have HB := n7_; have BK285 := n8_; have GW285 := n9_; have GE285 := n10_; have NB274_285 := n11_; have NB285_274 := n12_; clear n0_ n1_ n2_ n3_ n4_ n5_ n6_ n7_ n8_ n9_ n10_ n11_ n12_; clear hb hbox hg; obtain ⟨Ao20, co20, eo20⟩ := Kd.vK HO280.out; subst eo20; have hnb21 := NB285_274.out; have hnc21 := NB274_285.out; have hcz22_0 : w19.cell? ⟨gb285, 0, none⟩ = some (.slice none 0 0) := (uE BK285.out 0).trans rfl; have hcz22_1 : w19.cell? ⟨gb285, 1, none⟩ = some (.slice none 0 0) := (uE BK285.out 1).trans rfl; have hfz22_0 := uD BK285.out 0; have hfz22_1 := uD BK285.out 1; obtain ⟨Ao23, co23, eo23⟩ := Kd.vK HO283.out; subst eo23))
  (try simp only [Act.put, vS, vT, vU])
  go_cut [40] (fun v40 wc => ∃ (kq : Nat) (x40_7 : Bool), v40 = .bool x40_7 ∧ Aside0 (laws_FnExactReplayLog.j0 kq l0 t273 t275 t284 x40_7 t267 t270 t278 t281 = some true) ∧ Aside0 (kq ≤ k) ∧ Aside0 (Kd.R k72 72 wc w.heap.size (fun _ => True) (.slice Ao17 t275.length co17) t275) ∧ Aside0 (Kd.R (Kd.int .i64) 3 wc w.heap.size (fun k_ => some k_ ≠ ((.slice Ao20 t278.length co20) : Value).ownBlock) (.slice Ao13 t267.length co13) t267) ∧ Aside0 (Kd.R k49 49 wc w.heap.size (fun k_ => some k_ ≠ ((.slice Ao23 t281.length co23) : Value).ownBlock) (.slice Ao15 t270.length co15) t270) ∧ Aside0 (Kd.R (Kd.int .i64) 3 wc w.heap.size (fun k_ => some k_ ≠ ((.slice Ao13 t267.length co13) : Value).ownBlock) (.slice Ao20 t278.length co20) t278) ∧ Aside0 (Kd.R k49 49 wc w.heap.size (fun k_ => some k_ ≠ ((.slice Ao15 t270.length co15) : Value).ownBlock) (.slice Ao23 t281.length co23) t281) ∧ Aside0 (wc.heap[gb274]? = some (.cells #[(.slice Ao13 t267.length co13), (.slice Ao15 t270.length co15)] 31 (0, 0))) ∧ Aside0 (wc.heap[gb285]? = some (.cells #[(.slice Ao20 t278.length co20), (.slice Ao23 t281.length co23)] 31 (0, 0))) ∧ Aside0 (Below w.heap.size w wc))
  case first =>
    have H := HC8.out
    clear HC8
    replace H := Option.bind_eq_some_iff.mp H
    obtain ⟨t286, A240, H⟩ := H
    replace H : (if t286 = true then (laws_FnExactReplayLog.j0 k l0 t273 t275 t284 (t284 != t273) t267 t270 t278 t281) else (laws_FnExactReplayLog.j0 k l0 t273 t275 t284 true t267 t270 t278 t281)) = some true := H
    have A24 := Aside0.mk A240
    clear A240
    by_cases c25 : t286 = true
    · subst c25
      have H1 : (laws_FnExactReplayLog.j0 k l0 t273 t275 t284 (t284 != t273) t267 t270 t278 t281) = some true := by first | (rw [if_pos rfl] at H; exact H) | rfl
      clear H
      have H := H1
      clear H1
      have H' := Aside0.mk H
      clear H
      have hnb26 := NB285_274.out
      have hnc26 := NB274_285.out
      have hcz27_0 : w19.cell? ⟨gb285, 0, none⟩ = some (.slice none 0 0) := (uE BK285.out 0).trans rfl
      have hcz27_1 : w19.cell? ⟨gb285, 1, none⟩ = some (.slice none 0 0) := (uE BK285.out 1).trans rfl
      have hfz27_0 := uD BK285.out 0
      have hfz27_1 := uD BK285.out 1
      have hcz28_0 : w19.cell? ⟨gb274, 0, none⟩ = some (.slice Ao13 t267.length co13) := (uE BK274.out 0).trans rfl
      have hcz28_1 : w19.cell? ⟨gb274, 1, none⟩ = some (.slice Ao15 t270.length co15) := (uE BK274.out 1).trans rfl
      have hfz28_0 := uD BK274.out 0
      have hfz28_1 := uD BK274.out 1
      go_wp2_with (first | ((with_reducible refine uU (f := 13) rfl ?_); refine vE (some 34) rfl rfl Try.func13 (by kernel_rfl) rfl #[.agg #[.slice Ao20 t278.length co20, .slice Ao23 t281.length co23], .agg #[.slice Ao13 t267.length co13, .slice Ao15 t270.length co15]] rfl (by (try simp only [vV, List.map_cons, List.map_nil]); first | done | rfl | (simp only [vX, vW]; rfl)) ?_; (with_reducible refine (laws_eqMachine.calls k _ _ t278 _ _ t281 _ _ t267 _ _ t270 true _ ?side1 ?side2 ?side3 ?side4 ?side5 ?side6 ?side7 ?side8 A24.out).mono ?_); (case side1 => refine (Kd.uW (e := 3) (base := w.heap.size) (ok := fun k_ => (True ∧ some k_ ≠ (.slice Ao13 t267.length co13 : Value).ownBlock)) (n := t278.length) (c := co20) ?_).2.2; exact (by (with_reducible repeat (first | apply Kd.uO | apply Kd.uN | apply Kd.uQ)); exact (Kd.uY (Kd.uX (p := ⟨gb285, 1, none⟩) (Kd.uX (p := ⟨gb285, 0, none⟩) (Kd.vH HO280.out BK285.out (by decide)) (fun _ hk => hk.2) (.slice Ao20 t278.length co20)) (fun _ hk => hk.2) (.slice Ao23 t281.length co23)) (fun _ h_ => h_.1)))); (case side2 => exact (Kd.uW HO280.out).2.1); (case side3 => refine (Kd.uW (e := 49) (base := w.heap.size) (ok := fun k_ => (True ∧ some k_ ≠ (.slice Ao15 t270.length co15 : Value).ownBlock)) (n := t281.length) (c := co23) ?_).2.2; exact (by (with_reducible repeat (first | apply Kd.uO | apply Kd.uN | apply Kd.uQ)); exact (Kd.uY (Kd.uX (p := ⟨gb285, 1, none⟩) (Kd.uX (p := ⟨gb285, 0, none⟩) (Kd.vH HO283.out BK285.out (by decide)) (fun _ hk => hk.2) (.slice Ao20 t278.length co20)) (fun _ hk => hk.2) (.slice Ao23 t281.length co23)) (fun _ h_ => h_.1)))); (case side4 => exact (Kd.uW HO283.out).2.1); (case side5 => refine (Kd.uW (e := 3) (base := w.heap.size) (ok := fun k_ => (True ∧ some k_ ≠ (.slice Ao20 t278.length co20 : Value).ownBlock)) (n := t267.length) (c := co13) ?_).2.2; exact (by (with_reducible repeat (first | apply Kd.uO | apply Kd.uN | apply Kd.uQ)); exact (Kd.uY (Kd.uX (p := ⟨gb285, 1, none⟩) (Kd.uX (p := ⟨gb285, 0, none⟩) (Kd.vH HO269.out BK285.out (by decide)) (fun _ hk => hk.2) (.slice Ao20 t278.length co20)) (fun _ hk => hk.2) (.slice Ao23 t281.length co23)) (fun _ h_ => h_.1)))); (case side6 => exact (Kd.uW HO269.out).2.1); (case side7 => refine (Kd.uW (e := 49) (base := w.heap.size) (ok := fun k_ => (True ∧ some k_ ≠ (.slice Ao23 t281.length co23 : Value).ownBlock)) (n := t270.length) (c := co15) ?_).2.2; exact (by (with_reducible repeat (first | apply Kd.uO | apply Kd.uN | apply Kd.uQ)); exact (Kd.uY (Kd.uX (p := ⟨gb285, 1, none⟩) (Kd.uX (p := ⟨gb285, 0, none⟩) (Kd.vH HO272.out BK285.out (by decide)) (fun _ hk => hk.2) (.slice Ao20 t278.length co20)) (fun _ hk => hk.2) (.slice Ao23 t281.length co23)) (fun _ h_ => h_.1)))); (case side8 => exact (Kd.uW HO272.out).2.1); rintro e w29 ⟨rfl, hb⟩; refine ⟨_, rfl, ?_⟩; have n0_ := Aside0.mk (Kd.uZ (by (with_reducible repeat (first | apply Kd.uO | apply Kd.uN | apply Kd.uQ)); exact (Kd.uY (Kd.uX (p := ⟨gb285, 1, none⟩) (Kd.uX (p := ⟨gb285, 0, none⟩) (Kd.vH HO266.out BK285.out (by decide)) (fun _ hk => hk.2) (.slice Ao20 t278.length co20)) (fun _ hk => hk.2) (.slice Ao23 t281.length co23)) (fun _ h_ => h_.1))) hb); have n1_ := Aside0.mk (Kd.uZ (by (with_reducible repeat (first | apply Kd.uO | apply Kd.uN | apply Kd.uQ)); exact (Kd.uY (Kd.uX (p := ⟨gb285, 1, none⟩) (Kd.uX (p := ⟨gb285, 0, none⟩) (Kd.vH HO269.out BK285.out (by decide)) (fun _ hk => hk.2) (.slice Ao20 t278.length co20)) (fun _ hk => hk.2) (.slice Ao23 t281.length co23)) (fun _ h_ => h_.1))) hb); have n2_ := Aside0.mk (Kd.uZ (by (with_reducible repeat (first | apply Kd.uO | apply Kd.uN | apply Kd.uQ)); exact (Kd.uY (Kd.uX (p := ⟨gb285, 1, none⟩) (Kd.uX (p := ⟨gb285, 0, none⟩) (Kd.vH HO272.out BK285.out (by decide)) (fun _ hk => hk.2) (.slice Ao20 t278.length co20)) (fun _ hk => hk.2) (.slice Ao23 t281.length co23)) (fun _ h_ => h_.1))) hb); have n3_ := Aside0.mk (Kd.uZ (by (with_reducible repeat (first | apply Kd.uO | apply Kd.uN | apply Kd.uQ)); exact (Kd.uY (Kd.uX (p := ⟨gb285, 1, none⟩) (Kd.uX (p := ⟨gb285, 0, none⟩) (Kd.vH HO277.out BK285.out (by decide)) (fun _ hk => hk.2) (.slice Ao20 t278.length co20)) (fun _ hk => hk.2) (.slice Ao23 t281.length co23)) (fun _ h_ => h_.1))) hb); have n4_ := Aside0.mk (Kd.uZ (by (with_reducible repeat (first | apply Kd.uO | apply Kd.uN | apply Kd.uQ)); exact (Kd.uY (Kd.uX (p := ⟨gb285, 1, none⟩) (Kd.uX (p := ⟨gb285, 0, none⟩) (Kd.vH HO280.out BK285.out (by decide)) (fun _ hk => hk.2) (.slice Ao20 t278.length co20)) (fun _ hk => hk.2) (.slice Ao23 t281.length co23)) (fun _ h_ => h_.1))) hb); have n5_ := Aside0.mk (Kd.uZ (by (with_reducible repeat (first | apply Kd.uO | apply Kd.uN | apply Kd.uQ)); exact (Kd.uY (Kd.uX (p := ⟨gb285, 1, none⟩) (Kd.uX (p := ⟨gb285, 0, none⟩) (Kd.vH HO283.out BK285.out (by decide)) (fun _ hk => hk.2) (.slice Ao20 t278.length co20)) (fun _ hk => hk.2) (.slice Ao23 t281.length co23)) (fun _ h_ => h_.1))) hb); have n6_ := Aside0.mk (uT (g := gb274) (o := .cells #[.slice Ao13 t267.length co13, .slice Ao15 t270.length co15] 31 (0, 0)) (by (with_reducible repeat (first | refine uG ?_ _ | refine uI ?_ | refine uH ?_ _)); refine vI ?_ NB274_285.out _; (with_reducible repeat (first | refine uG ?_ _ | refine uI ?_ | refine uH ?_ _)); refine vI ?_ NB274_285.out _; (with_reducible repeat (first | refine uG ?_ _ | refine uI ?_ | refine uH ?_ _)); exact BK274.out) hb); have n7_ := Aside0.mk (uT (g := gb285) (o := .cells #[.slice Ao20 t278.length co20, .slice Ao23 t281.length co23] 31 (0, 0)) (by (with_reducible repeat (first | refine uG ?_ _ | refine uI ?_ | refine uH ?_ _)); refine vB (cs := #[.slice Ao20 t278.length co20, .slice none 0 0]) ?_ 1 _ rfl; (with_reducible repeat (first | refine uG ?_ _ | refine uI ?_ | refine uH ?_ _)); refine vB (cs := #[.slice none 0 0, .slice none 0 0]) ?_ 0 _ rfl; (with_reducible repeat (first | refine uG ?_ _ | refine uI ?_ | refine uH ?_ _)); exact BK285.out) hb); have n8_ := Aside0.mk (uP (by repeat (first | (with_reducible first | exact HB.out | apply uC | apply uA | apply uB | refine uF ?_ GE274.out | refine uF ?_ GE285.out) | exact HB.out)) hb); clear HO266; clear HO269; clear HO272; clear HO277; clear HO280; clear HO283; clear BK274; clear BK285; clear HB; have HO266 := n0_; have HO269 := n1_; have HO272 := n2_; have HO277 := n3_; have HO280 := n4_; have HO283 := n5_; have BK274 := n6_; have BK285 := n7_; have HB := n8_; clear n0_ n1_ n2_ n3_ n4_ n5_ n6_ n7_ n8_; (try clear hb); (try clear hb2); (try clear hk); (try clear hi)))
      go_meet
      case rel => exact ⟨_, ((t284 != t273)), (by first | rfl | (simp; done) | (simp [*]; done)), H', ⟨by first | omega | exact Nat.le_refl _⟩, ⟨by (with_reducible repeat (first | apply Kd.uO | apply Kd.uN | apply Kd.uQ)); exact Kd.uY HO277.out (fun _ hk => trivial)⟩, ⟨by (with_reducible repeat (first | apply Kd.uO | apply Kd.uN | apply Kd.uQ)); exact Kd.uY HO269.out (fun _ hk => hk.2)⟩, ⟨by (with_reducible repeat (first | apply Kd.uO | apply Kd.uN | apply Kd.uQ)); exact Kd.uY HO272.out (fun _ hk => hk.2)⟩, ⟨by (with_reducible repeat (first | apply Kd.uO | apply Kd.uN | apply Kd.uQ)); exact Kd.uY HO280.out (fun _ hk => hk.2)⟩, ⟨by (with_reducible repeat (first | apply Kd.uO | apply Kd.uN | apply Kd.uQ)); exact Kd.uY HO283.out (fun _ hk => hk.2)⟩, ⟨by (with_reducible repeat (first | refine uG ?_ _ | refine uI ?_ | refine uH ?_ _)); exact BK274.out⟩, ⟨by (with_reducible repeat (first | refine uG ?_ _ | refine uI ?_ | refine uH ?_ _)); exact BK285.out⟩, ⟨by repeat (first | (with_reducible first | exact HB.out | apply uC | apply uA | apply uB | refine uF ?_ GE274.out | refine uF ?_ GE285.out) | exact HB.out)⟩⟩
    replace c25 := Bool.eq_false_iff.mpr c25
    subst c25
    have H1 : (laws_FnExactReplayLog.j0 k l0 t273 t275 t284 true t267 t270 t278 t281) = some true := by first | (rw [if_neg (show ¬ (false = true) by decide)] at H; exact H) | rfl
    clear H
    have H := H1
    clear H1
    have H' := Aside0.mk H
    clear H
    have hnb30 := NB285_274.out
    have hnc30 := NB274_285.out
    have hcz31_0 : w19.cell? ⟨gb285, 0, none⟩ = some (.slice none 0 0) := (uE BK285.out 0).trans rfl
    have hcz31_1 : w19.cell? ⟨gb285, 1, none⟩ = some (.slice none 0 0) := (uE BK285.out 1).trans rfl
    have hfz31_0 := uD BK285.out 0
    have hfz31_1 := uD BK285.out 1
    have hcz32_0 : w19.cell? ⟨gb274, 0, none⟩ = some (.slice Ao13 t267.length co13) := (uE BK274.out 0).trans rfl
    have hcz32_1 : w19.cell? ⟨gb274, 1, none⟩ = some (.slice Ao15 t270.length co15) := (uE BK274.out 1).trans rfl
    have hfz32_0 := uD BK274.out 0
    have hfz32_1 := uD BK274.out 1
    go_wp2_with (first | ((with_reducible refine uU (f := 13) rfl ?_); refine vE (some 34) rfl rfl Try.func13 (by kernel_rfl) rfl #[.agg #[.slice Ao20 t278.length co20, .slice Ao23 t281.length co23], .agg #[.slice Ao13 t267.length co13, .slice Ao15 t270.length co15]] rfl (by (try simp only [vV, List.map_cons, List.map_nil]); first | done | rfl | (simp only [vX, vW]; rfl)) ?_; (with_reducible refine (laws_eqMachine.calls k _ _ t278 _ _ t281 _ _ t267 _ _ t270 false _ ?side1 ?side2 ?side3 ?side4 ?side5 ?side6 ?side7 ?side8 A24.out).mono ?_); (case side1 => refine (Kd.uW (e := 3) (base := w.heap.size) (ok := fun k_ => (True ∧ some k_ ≠ (.slice Ao13 t267.length co13 : Value).ownBlock)) (n := t278.length) (c := co20) ?_).2.2; exact (by (with_reducible repeat (first | apply Kd.uO | apply Kd.uN | apply Kd.uQ)); exact (Kd.uY (Kd.uX (p := ⟨gb285, 1, none⟩) (Kd.uX (p := ⟨gb285, 0, none⟩) (Kd.vH HO280.out BK285.out (by decide)) (fun _ hk => hk.2) (.slice Ao20 t278.length co20)) (fun _ hk => hk.2) (.slice Ao23 t281.length co23)) (fun _ h_ => h_.1)))); (case side2 => exact (Kd.uW HO280.out).2.1); (case side3 => refine (Kd.uW (e := 49) (base := w.heap.size) (ok := fun k_ => (True ∧ some k_ ≠ (.slice Ao15 t270.length co15 : Value).ownBlock)) (n := t281.length) (c := co23) ?_).2.2; exact (by (with_reducible repeat (first | apply Kd.uO | apply Kd.uN | apply Kd.uQ)); exact (Kd.uY (Kd.uX (p := ⟨gb285, 1, none⟩) (Kd.uX (p := ⟨gb285, 0, none⟩) (Kd.vH HO283.out BK285.out (by decide)) (fun _ hk => hk.2) (.slice Ao20 t278.length co20)) (fun _ hk => hk.2) (.slice Ao23 t281.length co23)) (fun _ h_ => h_.1)))); (case side4 => exact (Kd.uW HO283.out).2.1); (case side5 => refine (Kd.uW (e := 3) (base := w.heap.size) (ok := fun k_ => (True ∧ some k_ ≠ (.slice Ao20 t278.length co20 : Value).ownBlock)) (n := t267.length) (c := co13) ?_).2.2; exact (by (with_reducible repeat (first | apply Kd.uO | apply Kd.uN | apply Kd.uQ)); exact (Kd.uY (Kd.uX (p := ⟨gb285, 1, none⟩) (Kd.uX (p := ⟨gb285, 0, none⟩) (Kd.vH HO269.out BK285.out (by decide)) (fun _ hk => hk.2) (.slice Ao20 t278.length co20)) (fun _ hk => hk.2) (.slice Ao23 t281.length co23)) (fun _ h_ => h_.1)))); (case side6 => exact (Kd.uW HO269.out).2.1); (case side7 => refine (Kd.uW (e := 49) (base := w.heap.size) (ok := fun k_ => (True ∧ some k_ ≠ (.slice Ao23 t281.length co23 : Value).ownBlock)) (n := t270.length) (c := co15) ?_).2.2; exact (by (with_reducible repeat (first | apply Kd.uO | apply Kd.uN | apply Kd.uQ)); exact (Kd.uY (Kd.uX (p := ⟨gb285, 1, none⟩) (Kd.uX (p := ⟨gb285, 0, none⟩) (Kd.vH HO272.out BK285.out (by decide)) (fun _ hk => hk.2) (.slice Ao20 t278.length co20)) (fun _ hk => hk.2) (.slice Ao23 t281.length co23)) (fun _ h_ => h_.1)))); (case side8 => exact (Kd.uW HO272.out).2.1); rintro e w33 ⟨rfl, hb⟩; refine ⟨_, rfl, ?_⟩; have n0_ := Aside0.mk (Kd.uZ (by (with_reducible repeat (first | apply Kd.uO | apply Kd.uN | apply Kd.uQ)); exact (Kd.uY (Kd.uX (p := ⟨gb285, 1, none⟩) (Kd.uX (p := ⟨gb285, 0, none⟩) (Kd.vH HO266.out BK285.out (by decide)) (fun _ hk => hk.2) (.slice Ao20 t278.length co20)) (fun _ hk => hk.2) (.slice Ao23 t281.length co23)) (fun _ h_ => h_.1))) hb); have n1_ := Aside0.mk (Kd.uZ (by (with_reducible repeat (first | apply Kd.uO | apply Kd.uN | apply Kd.uQ)); exact (Kd.uY (Kd.uX (p := ⟨gb285, 1, none⟩) (Kd.uX (p := ⟨gb285, 0, none⟩) (Kd.vH HO269.out BK285.out (by decide)) (fun _ hk => hk.2) (.slice Ao20 t278.length co20)) (fun _ hk => hk.2) (.slice Ao23 t281.length co23)) (fun _ h_ => h_.1))) hb); have n2_ := Aside0.mk (Kd.uZ (by (with_reducible repeat (first | apply Kd.uO | apply Kd.uN | apply Kd.uQ)); exact (Kd.uY (Kd.uX (p := ⟨gb285, 1, none⟩) (Kd.uX (p := ⟨gb285, 0, none⟩) (Kd.vH HO272.out BK285.out (by decide)) (fun _ hk => hk.2) (.slice Ao20 t278.length co20)) (fun _ hk => hk.2) (.slice Ao23 t281.length co23)) (fun _ h_ => h_.1))) hb); have n3_ := Aside0.mk (Kd.uZ (by (with_reducible repeat (first | apply Kd.uO | apply Kd.uN | apply Kd.uQ)); exact (Kd.uY (Kd.uX (p := ⟨gb285, 1, none⟩) (Kd.uX (p := ⟨gb285, 0, none⟩) (Kd.vH HO277.out BK285.out (by decide)) (fun _ hk => hk.2) (.slice Ao20 t278.length co20)) (fun _ hk => hk.2) (.slice Ao23 t281.length co23)) (fun _ h_ => h_.1))) hb); have n4_ := Aside0.mk (Kd.uZ (by (with_reducible repeat (first | apply Kd.uO | apply Kd.uN | apply Kd.uQ)); exact (Kd.uY (Kd.uX (p := ⟨gb285, 1, none⟩) (Kd.uX (p := ⟨gb285, 0, none⟩) (Kd.vH HO280.out BK285.out (by decide)) (fun _ hk => hk.2) (.slice Ao20 t278.length co20)) (fun _ hk => hk.2) (.slice Ao23 t281.length co23)) (fun _ h_ => h_.1))) hb); have n5_ := Aside0.mk (Kd.uZ (by (with_reducible repeat (first | apply Kd.uO | apply Kd.uN | apply Kd.uQ)); exact (Kd.uY (Kd.uX (p := ⟨gb285, 1, none⟩) (Kd.uX (p := ⟨gb285, 0, none⟩) (Kd.vH HO283.out BK285.out (by decide)) (fun _ hk => hk.2) (.slice Ao20 t278.length co20)) (fun _ hk => hk.2) (.slice Ao23 t281.length co23)) (fun _ h_ => h_.1))) hb); have n6_ := Aside0.mk (uT (g := gb274) (o := .cells #[.slice Ao13 t267.length co13, .slice Ao15 t270.length co15] 31 (0, 0)) (by (with_reducible repeat (first | refine uG ?_ _ | refine uI ?_ | refine uH ?_ _)); refine vI ?_ NB274_285.out _; (with_reducible repeat (first | refine uG ?_ _ | refine uI ?_ | refine uH ?_ _)); refine vI ?_ NB274_285.out _; (with_reducible repeat (first | refine uG ?_ _ | refine uI ?_ | refine uH ?_ _)); exact BK274.out) hb); have n7_ := Aside0.mk (uT (g := gb285) (o := .cells #[.slice Ao20 t278.length co20, .slice Ao23 t281.length co23] 31 (0, 0)) (by (with_reducible repeat (first | refine uG ?_ _ | refine uI ?_ | refine uH ?_ _)); refine vB (cs := #[.slice Ao20 t278.length co20, .slice none 0 0]) ?_ 1 _ rfl; (with_reducible repeat (first | refine uG ?_ _ | refine uI ?_ | refine uH ?_ _)); refine vB (cs := #[.slice none 0 0, .slice none 0 0]) ?_ 0 _ rfl; (with_reducible repeat (first | refine uG ?_ _ | refine uI ?_ | refine uH ?_ _)); exact BK285.out) hb); have n8_ := Aside0.mk (uP (by repeat (first | (with_reducible first | exact HB.out | apply uC | apply uA | apply uB | refine uF ?_ GE274.out | refine uF ?_ GE285.out) | exact HB.out)) hb); clear HO266; clear HO269; clear HO272; clear HO277; clear HO280; clear HO283; clear BK274; clear BK285; clear HB; have HO266 := n0_; have HO269 := n1_; have HO272 := n2_; have HO277 := n3_; have HO280 := n4_; have HO283 := n5_; have BK274 := n6_; have BK285 := n7_; have HB := n8_; clear n0_ n1_ n2_ n3_ n4_ n5_ n6_ n7_ n8_; (try clear hb); (try clear hb2); (try clear hk); (try clear hi)))
    go_meet
    case rel => exact ⟨_, (true), (by first | rfl | (simp; done) | (simp [*]; done)), H', ⟨by first | omega | exact Nat.le_refl _⟩, ⟨by (with_reducible repeat (first | apply Kd.uO | apply Kd.uN | apply Kd.uQ)); exact Kd.uY HO277.out (fun _ hk => trivial)⟩, ⟨by (with_reducible repeat (first | apply Kd.uO | apply Kd.uN | apply Kd.uQ)); exact Kd.uY HO269.out (fun _ hk => hk.2)⟩, ⟨by (with_reducible repeat (first | apply Kd.uO | apply Kd.uN | apply Kd.uQ)); exact Kd.uY HO272.out (fun _ hk => hk.2)⟩, ⟨by (with_reducible repeat (first | apply Kd.uO | apply Kd.uN | apply Kd.uQ)); exact Kd.uY HO280.out (fun _ hk => hk.2)⟩, ⟨by (with_reducible repeat (first | apply Kd.uO | apply Kd.uN | apply Kd.uQ)); exact Kd.uY HO283.out (fun _ hk => hk.2)⟩, ⟨by (with_reducible repeat (first | refine uG ?_ _ | refine uI ?_ | refine uH ?_ _)); exact BK274.out⟩, ⟨by (with_reducible repeat (first | refine uG ?_ _ | refine uI ?_ | refine uH ?_ _)); exact BK285.out⟩, ⟨by repeat (first | (with_reducible first | exact HB.out | apply uC | apply uA | apply uB | refine uF ?_ GE274.out | refine uF ?_ GE285.out) | exact HB.out)⟩⟩
  case rest =>
    clear HC8
    try clear c1
    try clear c2
    try clear p2
    try clear c3
    try clear c3b0
    try clear c6
    try clear c13
    try clear c21
    try clear c25
    try clear c26
    try clear c27
    try clear c30
    try clear c31
    try clear hcz14_0
    try clear hcz14_1
    try clear hcz22_0
    try clear hcz22_1
    try clear hcz27_0
    try clear hcz27_1
    try clear hcz28_0
    try clear hcz28_1
    try clear hcz31_0
    try clear hcz31_1
    try clear hcz32_0
    try clear hcz32_1
    try clear hfz14_0
    try clear hfz14_1
    try clear hfz22_0
    try clear hfz22_1
    try clear hfz27_0
    try clear hfz27_1
    try clear hfz28_0
    try clear hfz28_1
    try clear hfz31_0
    try clear hfz31_1
    try clear hfz32_0
    try clear hfz32_1
    obtain ⟨kq, x40_7, rfl, HA, HJ7, HO_6, HO_275000, HO_275001, HO_286000, HO_286001, BK274, BK285, HB⟩ := hcut
    cases kq with
    | zero => exact absurd HA.out (by simp [laws_FnExactReplayLog.j0])
    | succ kj7 =>
      have H := HA.out
      clear HA
      simp only [laws_FnExactReplayLog.j0] at H
      by_cases c34 : x40_7 = true
      · subst c34
        have H1 : (some false) = some true := by first | (rw [if_pos rfl] at H; exact H) | rfl
        clear H
        have H := H1
        clear H1
        exact absurd H (by simp)
      replace c34 := Bool.eq_false_iff.mpr c34
      subst c34
      have H1 : ((laws_toEntryS.f kj7 l0).bind fun t287 => ((laws_eqEntryS.f kj7 t275 t287).bind fun t290 => (if t290 = true then ((laws_markEntryS.f kj7 t275 1).bind fun bt291 => (if bt291.1 < 0 then (laws_FnExactReplayLog.j1 kj7 l0 t273 true t267 t270 t278 t281) else ((laws_eqMachine.f kj7 t278 t281 t267 t270).bind fun t293 => (if t293 = true then (laws_FnExactReplayLog.j1 kj7 l0 t273 (t284 != t273) t267 t270 t278 t281) else (laws_FnExactReplayLog.j1 kj7 l0 t273 true t267 t270 t278 t281))))) else (some false)))) = some true := by first | (rw [if_neg (show ¬ (false = true) by decide)] at H; exact H) | rfl
      clear H
      have H := H1
      clear H1
      replace H := Option.bind_eq_some_iff.mp H
      obtain ⟨t287, A350, H⟩ := H
      replace H : ((laws_eqEntryS.f kj7 t275 t287).bind fun t290 => (if t290 = true then ((laws_markEntryS.f kj7 t275 1).bind fun bt291 => (if bt291.1 < 0 then (laws_FnExactReplayLog.j1 kj7 l0 t273 true t267 t270 t278 t281) else ((laws_eqMachine.f kj7 t278 t281 t267 t270).bind fun t293 => (if t293 = true then (laws_FnExactReplayLog.j1 kj7 l0 t273 (t284 != t273) t267 t270 t278 t281) else (laws_FnExactReplayLog.j1 kj7 l0 t273 true t267 t270 t278 t281))))) else (some false))) = some true := H
      have A35 := Aside0.mk A350
      clear A350
      replace H := Option.bind_eq_some_iff.mp H
      obtain ⟨t290, A360, H⟩ := H
      replace H : (if t290 = true then ((laws_markEntryS.f kj7 t275 1).bind fun bt291 => (if bt291.1 < 0 then (laws_FnExactReplayLog.j1 kj7 l0 t273 true t267 t270 t278 t281) else ((laws_eqMachine.f kj7 t278 t281 t267 t270).bind fun t293 => (if t293 = true then (laws_FnExactReplayLog.j1 kj7 l0 t273 (t284 != t273) t267 t270 t278 t281) else (laws_FnExactReplayLog.j1 kj7 l0 t273 true t267 t270 t278 t281))))) else (some false)) = some true := H
      have A36 := Aside0.mk A360
      clear A360
      by_cases c37 : t290 = true
      rotate_left
      · replace c37 := Bool.eq_false_iff.mpr c37
        subst c37
        have H1 : (some false) = some true := by first | (rw [if_neg (show ¬ (false = true) by decide)] at H; exact H) | rfl
        clear H
        have H := H1
        clear H1
        exact absurd H (by simp)
      subst c37
      have H1 : ((laws_markEntryS.f kj7 t275 1).bind fun bt291 => (if bt291.1 < 0 then (laws_FnExactReplayLog.j1 kj7 l0 t273 true t267 t270 t278 t281) else ((laws_eqMachine.f kj7 t278 t281 t267 t270).bind fun t293 => (if t293 = true then (laws_FnExactReplayLog.j1 kj7 l0 t273 (t284 != t273) t267 t270 t278 t281) else (laws_FnExactReplayLog.j1 kj7 l0 t273 true t267 t270 t278 t281))))) = some true := by first | (rw [if_pos rfl] at H; exact H) | rfl
      clear H
      have H := H1
      clear H1
      replace H := Option.bind_eq_some_iff.mp H
      obtain ⟨⟨t291, t292⟩, A380, H⟩ := H
      replace H : (if t291 < 0 then (laws_FnExactReplayLog.j1 kj7 l0 t273 true t267 t270 t278 t281) else ((laws_eqMachine.f kj7 t278 t281 t267 t270).bind fun t293 => (if t293 = true then (laws_FnExactReplayLog.j1 kj7 l0 t273 (t284 != t273) t267 t270 t278 t281) else (laws_FnExactReplayLog.j1 kj7 l0 t273 true t267 t270 t278 t281)))) = some true := H
      have A38 := Aside0.mk A380
      clear A380
      have HC39 := Aside0.mk H
      clear H
      go_upto_region 14 with (first | ((with_reducible refine uU (f := 27) rfl ?_); refine vE (some 43) rfl rfl Try.func27 (by kernel_rfl) rfl #[.slice A0 l0.length c0] rfl (by (try simp only [vV, List.map_cons, List.map_nil]); first | done | rfl | (simp only [vX, vW]; rfl)) ?_; (with_reducible refine (laws_toEntryS.calls kj7 _ _ l0 t287 _ ?side1 ?side2 A35.out).mono ?_); (case side1 => repeat (first | exact (Kd.vC HR0.out HB.out) | (with_reducible refine Kd.vL ?_ _) | (with_reducible refine Kd.vM ?_ _) | (with_reducible refine Kd.vN ?_))); (case side2 => exact HC0.out); rintro e w40 ⟨v288, rfl, ho0, hb⟩; refine ⟨_, rfl, ?_⟩; have n0_ := Aside0.mk (Kd.R_elder' (by (with_reducible repeat (first | apply Kd.uO | apply Kd.uN | apply Kd.uQ)); exact HO_6.out) (Kd.R_base ho0) hb); have n1_ := Aside0.mk (Kd.uZ (by (with_reducible repeat (first | apply Kd.uO | apply Kd.uN | apply Kd.uQ)); exact HO_275000.out) hb); have n2_ := Aside0.mk (Kd.uZ (by (with_reducible repeat (first | apply Kd.uO | apply Kd.uN | apply Kd.uQ)); exact HO_275001.out) hb); have n3_ := Aside0.mk (Kd.uZ (by (with_reducible repeat (first | apply Kd.uO | apply Kd.uN | apply Kd.uQ)); exact HO_286000.out) hb); have n4_ := Aside0.mk (Kd.uZ (by (with_reducible repeat (first | apply Kd.uO | apply Kd.uN | apply Kd.uQ)); exact HO_286001.out) hb); have n5_ := Aside0.mk (Kd.vR (Kd.R_new' ho0 (Kd.R_lt (by (with_reducible repeat (first | apply Kd.uO | apply Kd.uN | apply Kd.uQ)); exact HO_6.out))) (uK (by repeat (first | (with_reducible first | exact HB.out | apply uC | apply uA | apply uB | refine uF ?_ GE274.out | refine uF ?_ GE285.out) | exact HB.out)))); have n6_ := Aside0.mk (uT (g := gb274) (o := .cells #[.slice Ao13 t267.length co13, .slice Ao15 t270.length co15] 31 (0, 0)) (by (with_reducible repeat (first | refine uG ?_ _ | refine uI ?_ | refine uH ?_ _)); exact BK274.out) hb); have n7_ := Aside0.mk (uT (g := gb285) (o := .cells #[.slice Ao20 t278.length co20, .slice Ao23 t281.length co23] 31 (0, 0)) (by (with_reducible repeat (first | refine uG ?_ _ | refine uI ?_ | refine uH ?_ _)); exact BK285.out) hb); have n8_ := Aside0.mk (uP (by repeat (first | (with_reducible first | exact HB.out | apply uC | apply uA | apply uB | refine uF ?_ GE274.out | refine uF ?_ GE285.out) | exact HB.out)) hb); clear HO_6; clear HO_275000; clear HO_275001; clear HO_286000; clear HO_286001; clear BK274; clear BK285; clear HB; have HO_6 := n0_; have HO_275000 := n1_; have HO_275001 := n2_; have HO_286000 := n3_; have HO_286001 := n4_; have HO289 := n5_; have BK274 := n6_; have BK285 := n7_; have HB := n8_; clear n0_ n1_ n2_ n3_ n4_ n5_ n6_ n7_ n8_; (try clear hb); (try clear hb2); (try clear hk); (try clear hi); (try clear ho0); obtain ⟨Ao41, co41, eo41⟩ := Kd.vK HO289.out; subst eo41) | ((with_reducible refine uU (f := 29) rfl ?_); refine vE (some 44) rfl rfl Try.func29 (by kernel_rfl) rfl #[.slice Ao17 t275.length co17, .slice Ao41 t287.length co41] rfl (by (try simp only [vV, List.map_cons, List.map_nil]); first | done | rfl | (simp only [vX, vW]; rfl)) ?_; (with_reducible refine (laws_eqEntryS.calls kj7 _ _ t275 _ _ t287 true _ ?side1 ?side2 ?side3 ?side4 A36.out).mono ?_); (case side1 => repeat (first | exact (Kd.uW HO_6.out).2.2 | (with_reducible refine Kd.vL ?_ _) | (with_reducible refine Kd.vM ?_ _) | (with_reducible refine Kd.vN ?_))); (case side2 => exact (Kd.uW HO_6.out).2.1); (case side3 => repeat (first | exact (Kd.uW HO289.out).2.2 | (with_reducible refine Kd.vL ?_ _) | (with_reducible refine Kd.vM ?_ _) | (with_reducible refine Kd.vN ?_))); (case side4 => exact (Kd.uW HO289.out).2.1); rintro e w42 ⟨rfl, hb⟩; refine ⟨_, rfl, ?_⟩; have n0_ := Aside0.mk (Kd.uZ (by (with_reducible repeat (first | apply Kd.uO | apply Kd.uN | apply Kd.uQ)); exact HO_6.out) hb); have n1_ := Aside0.mk (Kd.uZ (by (with_reducible repeat (first | apply Kd.uO | apply Kd.uN | apply Kd.uQ)); exact HO_275000.out) hb); have n2_ := Aside0.mk (Kd.uZ (by (with_reducible repeat (first | apply Kd.uO | apply Kd.uN | apply Kd.uQ)); exact HO_275001.out) hb); have n3_ := Aside0.mk (Kd.uZ (by (with_reducible repeat (first | apply Kd.uO | apply Kd.uN | apply Kd.uQ)); exact HO_286000.out) hb); have n4_ := Aside0.mk (Kd.uZ (by (with_reducible repeat (first | apply Kd.uO | apply Kd.uN | apply Kd.uQ)); exact HO_286001.out) hb); have n5_ := Aside0.mk (Kd.uZ (by (with_reducible repeat (first | apply Kd.uO | apply Kd.uN | apply Kd.uQ)); exact HO289.out) hb); have n6_ := Aside0.mk (uT (g := gb274) (o := .cells #[.slice Ao13 t267.length co13, .slice Ao15 t270.length co15] 31 (0, 0)) (by (with_reducible repeat (first | refine uG ?_ _ | refine uI ?_ | refine uH ?_ _)); exact BK274.out) hb); have n7_ := Aside0.mk (uT (g := gb285) (o := .cells #[.slice Ao20 t278.length co20, .slice Ao23 t281.length co23] 31 (0, 0)) (by (with_reducible repeat (first | refine uG ?_ _ | refine uI ?_ | refine uH ?_ _)); exact BK285.out) hb); have n8_ := Aside0.mk (uP (by repeat (first | (with_reducible first | exact HB.out | apply uC | apply uA | apply uB | refine uF ?_ GE274.out | refine uF ?_ GE285.out) | exact HB.out)) hb); clear HO_6; clear HO_275000; clear HO_275001; clear HO_286000; clear HO_286001; clear HO289; clear BK274; clear BK285; clear HB; have HO_6 := n0_; have HO_275000 := n1_; have HO_275001 := n2_; have HO_286000 := n3_; have HO_286001 := n4_; have HO289 := n5_; have BK274 := n6_; have BK285 := n7_; have HB := n8_; clear n0_ n1_ n2_ n3_ n4_ n5_ n6_ n7_ n8_; (try clear hb); (try clear hb2); (try clear hk); (try clear hi)) | ((with_reducible refine uU (f := 32) rfl ?_); refine vE (some 48) rfl rfl Try.func32 (by kernel_rfl) rfl #[.slice Ao17 t275.length co17, .int .i64 1] rfl (by (try simp only [vV, List.map_cons, List.map_nil]); first | done | rfl | (simp only [vX, vW]; rfl)) ?_; (with_reducible refine (laws_markEntryS.calls kj7 (fun k_ => some k_ = (.slice Ao17 t275.length co17 : Value).ownBlock) (.slice Ao17 t275.length co17) t275 1 t291 t292 w _ ?side1 ?side2 A38.out).mono ?_); (case side1 => repeat (first | (with_reducible first | exact HB.out | apply uC | apply uA | apply uB | refine uF ?_ GE274.out | refine uF ?_ GE285.out) | exact HB.out)); (case side2 => exact Kd.R_tight rfl HO_6.out); rintro e w43 ⟨rfl, hy0, hb, hkp⟩; refine ⟨_, rfl, ?_⟩; have n0_ := Aside0.mk (Kd.R_reok rfl hy0 (fun k_ e_ => HO_6.out.1 k_ e_)); have n1_ := Aside0.mk (Kd.uY (ok' := fun k_ => some k_ ≠ (.slice Ao20 t278.length co20 : Value).ownBlock) (Kd.R_keptB ((Kd.R_apart' HO_275000.out (Kd.R_typed HO_6.out) (by decide))) hkp (fun k_ hk_ hs_ => (hk_.2) hs_)) (fun k_ hk_ => hk_.1.1)); have n2_ := Aside0.mk (Kd.uY (ok' := fun k_ => some k_ ≠ (.slice Ao23 t281.length co23 : Value).ownBlock) (Kd.R_keptB ((Kd.R_apart' HO_275001.out (Kd.R_typed HO_6.out) (by decide))) hkp (fun k_ hk_ hs_ => (hk_.2) hs_)) (fun k_ hk_ => hk_.1.1)); have n3_ := Aside0.mk (Kd.uY (ok' := fun k_ => some k_ ≠ (.slice Ao13 t267.length co13 : Value).ownBlock) (Kd.R_keptB ((Kd.R_apart' HO_286000.out (Kd.R_typed HO_6.out) (by decide))) hkp (fun k_ hk_ hs_ => (hk_.2) hs_)) (fun k_ hk_ => hk_.1.1)); have n4_ := Aside0.mk (Kd.uY (ok' := fun k_ => some k_ ≠ (.slice Ao15 t270.length co15 : Value).ownBlock) (Kd.R_keptB ((Kd.R_apart' HO_286001.out (Kd.R_typed HO_6.out) (by decide))) hkp (fun k_ hk_ hs_ => (hk_.2) hs_)) (fun k_ hk_ => hk_.1.1)); have n5_ := Aside0.mk (blk_kept (by (with_reducible repeat (first | refine uG ?_ _ | refine uI ?_ | refine uH ?_ _)); exact BK274.out) hkp (fun hs_ => (fun e_ => (Kd.R_ne HO_6.out BK274.out (by decide)) e_) hs_)); have n6_ := Aside0.mk (blk_kept (by (with_reducible repeat (first | refine uG ?_ _ | refine uI ?_ | refine uH ?_ _)); exact BK285.out) hkp (fun hs_ => (fun e_ => (Kd.R_ne HO_6.out BK285.out (by decide)) e_) hs_)); have n7_ := Aside0.mk (Kd.uY (ok' := fun k_ => some k_ ≠ (.slice Ao17 t275.length co17 : Value).ownBlock) (Kd.R_keptB (HO289.out) hkp (fun k_ hk_ hs_ => (hk_.2) hs_)) (fun k_ hk_ => hk_.1.2)); have n8_ := Aside0.mk (hb); clear HO_6; clear HO_275000; clear HO_275001; clear HO_286000; clear HO_286001; clear BK274; clear BK285; clear HO289; clear HB; have HO_6 := n0_; have HO_275000 := n1_; have HO_275001 := n2_; have HO_286000 := n3_; have HO_286001 := n4_; have BK274 := n5_; have BK285 := n6_; have HO289 := n7_; have HB := n8_; clear n0_ n1_ n2_ n3_ n4_ n5_ n6_ n7_ n8_; (try clear hb); (try clear hkp); (try clear hy0)))
      (try simp only [Act.put, vS, vT, vU])
      go_cut [61] (fun v61 wc => ∃ (kq : Nat) (x61_38 : Bool), v61 = .bool x61_38 ∧ Aside0 (laws_FnExactReplayLog.j1 kq l0 t273 x61_38 t267 t270 t278 t281 = some true) ∧ Aside0 (kq ≤ kj7) ∧ Aside0 (Kd.R (Kd.int .i64) 3 wc w.heap.size (fun k_ => some k_ ≠ ((.slice Ao20 t278.length co20) : Value).ownBlock) (.slice Ao13 t267.length co13) t267) ∧ Aside0 (Kd.R k49 49 wc w.heap.size (fun k_ => some k_ ≠ ((.slice Ao23 t281.length co23) : Value).ownBlock) (.slice Ao15 t270.length co15) t270) ∧ Aside0 (Kd.R (Kd.int .i64) 3 wc w.heap.size (fun k_ => some k_ ≠ ((.slice Ao13 t267.length co13) : Value).ownBlock) (.slice Ao20 t278.length co20) t278) ∧ Aside0 (Kd.R k49 49 wc w.heap.size (fun k_ => some k_ ≠ ((.slice Ao15 t270.length co15) : Value).ownBlock) (.slice Ao23 t281.length co23) t281) ∧ Aside0 (wc.heap[gb274]? = some (.cells #[(.slice Ao13 t267.length co13), (.slice Ao15 t270.length co15)] 31 (0, 0))) ∧ Aside0 (wc.heap[gb285]? = some (.cells #[(.slice Ao20 t278.length co20), (.slice Ao23 t281.length co23)] 31 (0, 0))) ∧ Aside0 (Below w.heap.size w wc))
      case first =>
        have H := HC39.out
        clear HC39
        by_cases c44 : t291 < 0
        · rw [if_pos c44] at H
          have c44b0 : decide (t291 < 0) = true := decide_eq_true c44
          clear c44
          (first | rw [c44b0] | (simp only [uL, uM]; rw [c44b0]) | skip)
          have H' := Aside0.mk H
          clear H
          go_wp2
          go_meet
          case rel => exact ⟨_, (true), (by first | rfl | (simp; done) | (simp [*]; done)), H', ⟨by have := HJ7.out; first | omega | exact Nat.le_refl _⟩, ⟨by (with_reducible repeat (first | apply Kd.uO | apply Kd.uN | apply Kd.uQ)); exact HO_275000.out⟩, ⟨by (with_reducible repeat (first | apply Kd.uO | apply Kd.uN | apply Kd.uQ)); exact HO_275001.out⟩, ⟨by (with_reducible repeat (first | apply Kd.uO | apply Kd.uN | apply Kd.uQ)); exact HO_286000.out⟩, ⟨by (with_reducible repeat (first | apply Kd.uO | apply Kd.uN | apply Kd.uQ)); exact HO_286001.out⟩, ⟨by (with_reducible repeat (first | refine uG ?_ _ | refine uI ?_ | refine uH ?_ _)); exact BK274.out⟩, ⟨by (with_reducible repeat (first | refine uG ?_ _ | refine uI ?_ | refine uH ?_ _)); exact BK285.out⟩, ⟨by repeat (first | (with_reducible first | exact HB.out | apply uC | apply uA | apply uB | refine uF ?_ GE274.out | refine uF ?_ GE285.out) | exact HB.out)⟩⟩
        rw [if_neg c44] at H
        have c44b0 : decide (t291 < 0) = false := decide_eq_false c44
        clear c44
        (first | rw [c44b0] | (simp only [uL, uM]; rw [c44b0]) | skip)
        replace H := Option.bind_eq_some_iff.mp H
        obtain ⟨t293, A450, H⟩ := H
        replace H : (if t293 = true then (laws_FnExactReplayLog.j1 kj7 l0 t273 (t284 != t273) t267 t270 t278 t281) else (laws_FnExactReplayLog.j1 kj7 l0 t273 true t267 t270 t278 t281)) = some true := H
        have A45 := Aside0.mk A450
        clear A450
        by_cases c46 : t293 = true
        · subst c46
          have H1 : (laws_FnExactReplayLog.j1 kj7 l0 t273 (t284 != t273) t267 t270 t278 t281) = some true := by first | (rw [if_pos rfl] at H; exact H) | rfl
          clear H
          have H := H1
          clear H1
          have H' := Aside0.mk H
          clear H
          have hnb47 := NB285_274.out
          have hnc47 := NB274_285.out
          have hcz48_0 : w43.cell? ⟨gb285, 0, none⟩ = some (.slice Ao20 t278.length co20) := (uE BK285.out 0).trans rfl
          have hcz48_1 : w43.cell? ⟨gb285, 1, none⟩ = some (.slice Ao23 t281.length co23) := (uE BK285.out 1).trans rfl
          have hfz48_0 := uD BK285.out 0
          have hfz48_1 := uD BK285.out 1
          have hcz49_0 : w43.cell? ⟨gb274, 0, none⟩ = some (.slice Ao13 t267.length co13) := (uE BK274.out 0).trans rfl
          have hcz49_1 : w43.cell? ⟨gb274, 1, none⟩ = some (.slice Ao15 t270.length co15) := (uE BK274.out 1).trans rfl
          have hfz49_0 := uD BK274.out 0
          have hfz49_1 := uD BK274.out 1
          go_wp2_with (first | (go_at_call 13; (with_reducible refine (laws_eqMachine.calls kj7 _ _ t278 _ _ t281 _ _ t267 _ _ t270 true _ ?side1 ?side2 ?side3 ?side4 ?side5 ?side6 ?side7 ?side8 A45.out).mono ?_); (case side1 => repeat (first | exact (Kd.uW HO_286000.out).2.2 | (with_reducible refine Kd.vL ?_ _) | (with_reducible refine Kd.vM ?_ _) | (with_reducible refine Kd.vN ?_))); (case side2 => exact (Kd.uW HO_286000.out).2.1); (case side3 => repeat (first | exact (Kd.uW HO_286001.out).2.2 | (with_reducible refine Kd.vL ?_ _) | (with_reducible refine Kd.vM ?_ _) | (with_reducible refine Kd.vN ?_))); (case side4 => exact (Kd.uW HO_286001.out).2.1); (case side5 => repeat (first | exact (Kd.uW HO_275000.out).2.2 | (with_reducible refine Kd.vL ?_ _) | (with_reducible refine Kd.vM ?_ _) | (with_reducible refine Kd.vN ?_))); (case side6 => exact (Kd.uW HO_275000.out).2.1); (case side7 => repeat (first | exact (Kd.uW HO_275001.out).2.2 | (with_reducible refine Kd.vL ?_ _) | (with_reducible refine Kd.vM ?_ _) | (with_reducible refine Kd.vN ?_))); (case side8 => exact (Kd.uW HO_275001.out).2.1); rintro e w50 ⟨rfl, hb⟩; have n0_ := Aside0.mk (Kd.uZ (by (with_reducible repeat (first | apply Kd.uO | apply Kd.uN | apply Kd.uQ)); exact HO_6.out) hb); have n1_ := Aside0.mk (Kd.uZ (by (with_reducible repeat (first | apply Kd.uO | apply Kd.uN | apply Kd.uQ)); exact HO_275000.out) hb); have n2_ := Aside0.mk (Kd.uZ (by (with_reducible repeat (first | apply Kd.uO | apply Kd.uN | apply Kd.uQ)); exact HO_275001.out) hb); have n3_ := Aside0.mk (Kd.uZ (by (with_reducible repeat (first | apply Kd.uO | apply Kd.uN | apply Kd.uQ)); exact HO_286000.out) hb); have n4_ := Aside0.mk (Kd.uZ (by (with_reducible repeat (first | apply Kd.uO | apply Kd.uN | apply Kd.uQ)); exact HO_286001.out) hb); have n5_ := Aside0.mk (Kd.uZ (by (with_reducible repeat (first | apply Kd.uO | apply Kd.uN | apply Kd.uQ)); exact HO289.out) hb); have n6_ := Aside0.mk (uT (g := gb274) (o := .cells #[.slice Ao13 t267.length co13, .slice Ao15 t270.length co15] 31 (0, 0)) (by (with_reducible repeat (first | refine uG ?_ _ | refine uI ?_ | refine uH ?_ _)); exact BK274.out) hb); have n7_ := Aside0.mk (uT (g := gb285) (o := .cells #[.slice Ao20 t278.length co20, .slice Ao23 t281.length co23] 31 (0, 0)) (by (with_reducible repeat (first | refine uG ?_ _ | refine uI ?_ | refine uH ?_ _)); exact BK285.out) hb); have n8_ := Aside0.mk (uP (by repeat (first | (with_reducible first | exact HB.out | apply uC | apply uA | apply uB | refine uF ?_ GE274.out | refine uF ?_ GE285.out) | exact HB.out)) hb); clear HO_6; clear HO_275000; clear HO_275001; clear HO_286000; clear HO_286001; clear HO289; clear BK274; clear BK285; clear HB; have HO_6 := n0_; have HO_275000 := n1_; have HO_275001 := n2_; have HO_286000 := n3_; have HO_286001 := n4_; have HO289 := n5_; have BK274 := n6_; have BK285 := n7_; have HB := n8_; clear n0_ n1_ n2_ n3_ n4_ n5_ n6_ n7_ n8_; (try clear hb); (try clear hb2); (try clear hk); (try clear hi)))
          go_meet
          case rel => exact ⟨_, ((t284 != t273)), (by first | rfl | (simp; done) | (simp [*]; done)), H', ⟨by have := HJ7.out; first | omega | exact Nat.le_refl _⟩, ⟨by (with_reducible repeat (first | apply Kd.uO | apply Kd.uN | apply Kd.uQ)); exact HO_275000.out⟩, ⟨by (with_reducible repeat (first | apply Kd.uO | apply Kd.uN | apply Kd.uQ)); exact HO_275001.out⟩, ⟨by (with_reducible repeat (first | apply Kd.uO | apply Kd.uN | apply Kd.uQ)); exact HO_286000.out⟩, ⟨by (with_reducible repeat (first | apply Kd.uO | apply Kd.uN | apply Kd.uQ)); exact HO_286001.out⟩, ⟨by (with_reducible repeat (first | refine uG ?_ _ | refine uI ?_ | refine uH ?_ _)); exact BK274.out⟩, ⟨by (with_reducible repeat (first | refine uG ?_ _ | refine uI ?_ | refine uH ?_ _)); exact BK285.out⟩, ⟨by repeat (first | (with_reducible first | exact HB.out | apply uC | apply uA | apply uB | refine uF ?_ GE274.out | refine uF ?_ GE285.out) | exact HB.out)⟩⟩
        replace c46 := Bool.eq_false_iff.mpr c46
        subst c46
        have H1 : (laws_FnExactReplayLog.j1 kj7 l0 t273 true t267 t270 t278 t281) = some true := by first | (rw [if_neg (show ¬ (false = true) by decide)] at H; exact H) | rfl
        clear H
        have H := H1
        clear H1
        have H' := Aside0.mk H
        clear H
        have hnb51 := NB285_274.out
        have hnc51 := NB274_285.out
        have hcz52_0 : w43.cell? ⟨gb285, 0, none⟩ = some (.slice Ao20 t278.length co20) := (uE BK285.out 0).trans rfl
        have hcz52_1 : w43.cell? ⟨gb285, 1, none⟩ = some (.slice Ao23 t281.length co23) := (uE BK285.out 1).trans rfl
        have hfz52_0 := uD BK285.out 0
        have hfz52_1 := uD BK285.out 1
        have hcz53_0 : w43.cell? ⟨gb274, 0, none⟩ = some (.slice Ao13 t267.length co13) := (uE BK274.out 0).trans rfl
        have hcz53_1 : w43.cell? ⟨gb274, 1, none⟩ = some (.slice Ao15 t270.length co15) := (uE BK274.out 1).trans rfl
        have hfz53_0 := uD BK274.out 0
        have hfz53_1 := uD BK274.out 1
        go_wp2_with (first | (go_at_call 13; (with_reducible refine (laws_eqMachine.calls kj7 _ _ t278 _ _ t281 _ _ t267 _ _ t270 false _ ?side1 ?side2 ?side3 ?side4 ?side5 ?side6 ?side7 ?side8 A45.out).mono ?_); (case side1 => repeat (first | exact (Kd.uW HO_286000.out).2.2 | (with_reducible refine Kd.vL ?_ _) | (with_reducible refine Kd.vM ?_ _) | (with_reducible refine Kd.vN ?_))); (case side2 => exact (Kd.uW HO_286000.out).2.1); (case side3 => repeat (first | exact (Kd.uW HO_286001.out).2.2 | (with_reducible refine Kd.vL ?_ _) | (with_reducible refine Kd.vM ?_ _) | (with_reducible refine Kd.vN ?_))); (case side4 => exact (Kd.uW HO_286001.out).2.1); (case side5 => repeat (first | exact (Kd.uW HO_275000.out).2.2 | (with_reducible refine Kd.vL ?_ _) | (with_reducible refine Kd.vM ?_ _) | (with_reducible refine Kd.vN ?_))); (case side6 => exact (Kd.uW HO_275000.out).2.1); (case side7 => repeat (first | exact (Kd.uW HO_275001.out).2.2 | (with_reducible refine Kd.vL ?_ _) | (with_reducible refine Kd.vM ?_ _) | (with_reducible refine Kd.vN ?_))); (case side8 => exact (Kd.uW HO_275001.out).2.1); rintro e w54 ⟨rfl, hb⟩; have n0_ := Aside0.mk (Kd.uZ (by (with_reducible repeat (first | apply Kd.uO | apply Kd.uN | apply Kd.uQ)); exact HO_6.out) hb); have n1_ := Aside0.mk (Kd.uZ (by (with_reducible repeat (first | apply Kd.uO | apply Kd.uN | apply Kd.uQ)); exact HO_275000.out) hb); have n2_ := Aside0.mk (Kd.uZ (by (with_reducible repeat (first | apply Kd.uO | apply Kd.uN | apply Kd.uQ)); exact HO_275001.out) hb); have n3_ := Aside0.mk (Kd.uZ (by (with_reducible repeat (first | apply Kd.uO | apply Kd.uN | apply Kd.uQ)); exact HO_286000.out) hb); have n4_ := Aside0.mk (Kd.uZ (by (with_reducible repeat (first | apply Kd.uO | apply Kd.uN | apply Kd.uQ)); exact HO_286001.out) hb); have n5_ := Aside0.mk (Kd.uZ (by (with_reducible repeat (first | apply Kd.uO | apply Kd.uN | apply Kd.uQ)); exact HO289.out) hb); have n6_ := Aside0.mk (uT (g := gb274) (o := .cells #[.slice Ao13 t267.length co13, .slice Ao15 t270.length co15] 31 (0, 0)) (by (with_reducible repeat (first | refine uG ?_ _ | refine uI ?_ | refine uH ?_ _)); exact BK274.out) hb); have n7_ := Aside0.mk (uT (g := gb285) (o := .cells #[.slice Ao20 t278.length co20, .slice Ao23 t281.length co23] 31 (0, 0)) (by (with_reducible repeat (first | refine uG ?_ _ | refine uI ?_ | refine uH ?_ _)); exact BK285.out) hb); have n8_ := Aside0.mk (uP (by repeat (first | (with_reducible first | exact HB.out | apply uC | apply uA | apply uB | refine uF ?_ GE274.out | refine uF ?_ GE285.out) | exact HB.out)) hb); clear HO_6; clear HO_275000; clear HO_275001; clear HO_286000; clear HO_286001; clear HO289; clear BK274; clear BK285; clear HB; have HO_6 := n0_; have HO_275000 := n1_; have HO_275001 := n2_; have HO_286000 := n3_; have HO_286001 := n4_; have HO289 := n5_; have BK274 := n6_; have BK285 := n7_; have HB := n8_; clear n0_ n1_ n2_ n3_ n4_ n5_ n6_ n7_ n8_; (try clear hb); (try clear hb2); (try clear hk); (try clear hi)))
        go_meet
        case rel => exact ⟨_, (true), (by first | rfl | (simp; done) | (simp [*]; done)), H', ⟨by have := HJ7.out; first | omega | exact Nat.le_refl _⟩, ⟨by (with_reducible repeat (first | apply Kd.uO | apply Kd.uN | apply Kd.uQ)); exact HO_275000.out⟩, ⟨by (with_reducible repeat (first | apply Kd.uO | apply Kd.uN | apply Kd.uQ)); exact HO_275001.out⟩, ⟨by (with_reducible repeat (first | apply Kd.uO | apply Kd.uN | apply Kd.uQ)); exact HO_286000.out⟩, ⟨by (with_reducible repeat (first | apply Kd.uO | apply Kd.uN | apply Kd.uQ)); exact HO_286001.out⟩, ⟨by (with_reducible repeat (first | refine uG ?_ _ | refine uI ?_ | refine uH ?_ _)); exact BK274.out⟩, ⟨by (with_reducible repeat (first | refine uG ?_ _ | refine uI ?_ | refine uH ?_ _)); exact BK285.out⟩, ⟨by repeat (first | (with_reducible first | exact HB.out | apply uC | apply uA | apply uB | refine uF ?_ GE274.out | refine uF ?_ GE285.out) | exact HB.out)⟩⟩
      case rest =>
        clear HC39
        try clear c1
        try clear c2
        try clear p2
        try clear c3
        try clear c3b0
        try clear c4
        try clear c5
        try clear c6
        try clear c13
        try clear c21
        try clear c25
        try clear c26
        try clear c27
        try clear c29
        try clear c30
        try clear c31
        try clear c32
        try clear c34
        try clear c37
        try clear c44
        try clear c44b0
        try clear c46
        try clear c47
        try clear c51
        try clear hcz14_0
        try clear hcz14_1
        try clear hcz22_0
        try clear hcz22_1
        try clear hcz27_0
        try clear hcz27_1
        try clear hcz28_0
        try clear hcz28_1
        try clear hcz31_0
        try clear hcz31_1
        try clear hcz32_0
        try clear hcz32_1
        try clear hcz48_0
        try clear hcz48_1
        try clear hcz49_0
        try clear hcz49_1
        try clear hcz52_0
        try clear hcz52_1
        try clear hcz53_0
        try clear hcz53_1
        try clear hfz14_0
        try clear hfz14_1
        try clear hfz22_0
        try clear hfz22_1
        try clear hfz27_0
        try clear hfz27_1
        try clear hfz28_0
        try clear hfz28_1
        try clear hfz31_0
        try clear hfz31_1
        try clear hfz32_0
        try clear hfz32_1
        try clear hfz48_0
        try clear hfz48_1
        try clear hfz49_0
        try clear hfz49_1
        try clear hfz52_0
        try clear hfz52_1
        try clear hfz53_0
        try clear hfz53_1
        try clear p2
        obtain ⟨kq, x61_38, rfl, HA, HJ38, HO_275000, HO_275001, HO_286000, HO_286001, BK274, BK285, HB⟩ := hcut
        cases kq with
        | zero => exact absurd HA.out (by simp [laws_FnExactReplayLog.j1])
        | succ kj38 =>
          have H := HA.out
          clear HA
          simp only [laws_FnExactReplayLog.j1] at H
          by_cases c55 : x61_38 = true
          · subst c55
            have H1 : (some false) = some true := by first | (rw [if_pos rfl] at H; exact H) | rfl
            clear H
            have H := H1
            clear H1
            exact absurd H (by simp)
          replace c55 := Bool.eq_false_iff.mpr c55
          subst c55
          have H1 : ((laws_markMachine.f kj38 t278 t281 1).bind fun bt294 => ((laws_heldMachine.f kj38 bt294.2.1 bt294.2.2 1).bind fun t297 => (if t297 < 0 then (some false) else (if t297 = bt294.1 then ((laws_toEntryS.f kj38 l0).bind fun t298 => ((impl_ReplayLog.f kj38 t298).bind fun bt301 => ((laws_eqMachine.f kj38 bt301.1 bt301.2.1 t267 t270).bind fun t309 => (if t309 = true then (laws_FnExactReplayLog.j2 kj38 bt294.1 (bt301.2.2 != t273) bt294.2.1 bt294.2.2) else (laws_FnExactReplayLog.j2 kj38 bt294.1 true bt294.2.1 bt294.2.2))))) else (some false))))) = some true := by first | (rw [if_neg (show ¬ (false = true) by decide)] at H; exact H) | rfl
          clear H
          have H := H1
          clear H1
          replace H := Option.bind_eq_some_iff.mp H
          obtain ⟨⟨t294, t295, t296⟩, A560, H⟩ := H
          replace H : ((laws_heldMachine.f kj38 t295 t296 1).bind fun t297 => (if t297 < 0 then (some false) else (if t297 = t294 then ((laws_toEntryS.f kj38 l0).bind fun t298 => ((impl_ReplayLog.f kj38 t298).bind fun bt301 => ((laws_eqMachine.f kj38 bt301.1 bt301.2.1 t267 t270).bind fun t309 => (if t309 = true then (laws_FnExactReplayLog.j2 kj38 t294 (bt301.2.2 != t273) t295 t296) else (laws_FnExactReplayLog.j2 kj38 t294 true t295 t296))))) else (some false)))) = some true := H
          have A56 := Aside0.mk A560
          clear A560
          replace H := Option.bind_eq_some_iff.mp H
          obtain ⟨t297, A570, H⟩ := H
          replace H : (if t297 < 0 then (some false) else (if t297 = t294 then ((laws_toEntryS.f kj38 l0).bind fun t298 => ((impl_ReplayLog.f kj38 t298).bind fun bt301 => ((laws_eqMachine.f kj38 bt301.1 bt301.2.1 t267 t270).bind fun t309 => (if t309 = true then (laws_FnExactReplayLog.j2 kj38 t294 (bt301.2.2 != t273) t295 t296) else (laws_FnExactReplayLog.j2 kj38 t294 true t295 t296))))) else (some false))) = some true := H
          have A57 := Aside0.mk A570
          clear A570
          by_cases c58 : t297 < 0
          · rw [if_pos c58] at H
            have c58b0 : decide (t297 < 0) = true := decide_eq_true c58
            clear c58
            exact absurd H (by simp)
          rw [if_neg c58] at H
          have c58b0 : decide (t297 < 0) = false := decide_eq_false c58
          clear c58
          by_cases c59 : t297 = t294
          rotate_left
          · rw [if_neg c59] at H
            have c59b0 : (t297 == t294) = false := beq_eq_false_iff_ne.mpr c59
            have c59b1 : (t297 != t294) = true := bne_iff_ne.mpr c59
            exact absurd H (by simp)
          rw [if_pos c59] at H
          have c59b0 : (t297 == t294) = true := beq_iff_eq.mpr c59
          have c59b1 : (t297 != t294) = false := bne_eq_false_iff_eq.mpr c59
          clear c59
          replace H := Option.bind_eq_some_iff.mp H
          obtain ⟨t298, A600, H⟩ := H
          replace H : ((impl_ReplayLog.f kj38 t298).bind fun bt301 => ((laws_eqMachine.f kj38 bt301.1 bt301.2.1 t267 t270).bind fun t309 => (if t309 = true then (laws_FnExactReplayLog.j2 kj38 t294 (bt301.2.2 != t273) t295 t296) else (laws_FnExactReplayLog.j2 kj38 t294 true t295 t296)))) = some true := H
          have A60 := Aside0.mk A600
          clear A600
          replace H := Option.bind_eq_some_iff.mp H
          obtain ⟨⟨t301, t304, t307⟩, A610, H⟩ := H
          replace H : ((laws_eqMachine.f kj38 t301 t304 t267 t270).bind fun t309 => (if t309 = true then (laws_FnExactReplayLog.j2 kj38 t294 (t307 != t273) t295 t296) else (laws_FnExactReplayLog.j2 kj38 t294 true t295 t296))) = some true := H
          have A61 := Aside0.mk A610
          clear A610
          have HC62 := Aside0.mk H
          clear H
          have hnb63 := NB285_274.out
          have hnc63 := NB274_285.out
          have hcz64_0 : wc.cell? ⟨gb285, 0, none⟩ = some (.slice Ao20 t278.length co20) := (uE BK285.out 0).trans rfl
          have hcz64_1 : wc.cell? ⟨gb285, 1, none⟩ = some (.slice Ao23 t281.length co23) := (uE BK285.out 1).trans rfl
          have hfz64_0 := uD BK285.out 0
          have hfz64_1 := uD BK285.out 1
          go_upto_region 25 with (first | ((with_reducible refine uU (f := 15) rfl ?_); refine vE (some 64) rfl rfl Try.func15 (by kernel_rfl) rfl #[.agg #[.slice Ao20 t278.length co20, .slice Ao23 t281.length co23], .int .i64 1] rfl (by (try simp only [vV, List.map_cons, List.map_nil]); first | done | rfl | (simp only [vX, vW]; rfl)) ?_; (with_reducible refine (laws_markMachine.calls kj38 (fun k_ => some k_ = (.slice Ao20 t278.length co20 : Value).ownBlock) (.slice Ao20 t278.length co20) t278 (fun k_ => some k_ = (.slice Ao23 t281.length co23 : Value).ownBlock) (.slice Ao23 t281.length co23) t281 1 t294 t295 t296 w _ ?side1 ?side2 ?side3 A56.out).mono ?_); (case side1 => repeat (first | (with_reducible first | exact HB.out | apply uC | apply uA | apply uB | refine uF ?_ GE274.out | refine uF ?_ GE285.out) | exact HB.out)); (case side2 => exact Kd.R_tight rfl HO_286000.out); (case side3 => exact Kd.R_tight rfl HO_286001.out); rintro e w65 ⟨rfl, hy0, hy1, hb, hkp⟩; refine ⟨_, rfl, ?_⟩; have n0_ := Aside0.mk (Kd.uY (ok' := fun k_ => some k_ ≠ (.slice Ao20 t278.length co20 : Value).ownBlock) (Kd.R_keptB ((Kd.R_apart' HO_275000.out (Kd.R_typed HO_286001.out) (by decide))) hkp (fun k_ hk_ hs_ => Or.elim hs_ (fun e_ => (hk_.1) e_) (fun e_ => (hk_.2) e_))) (fun k_ hk_ => hk_.1.1)); have n1_ := Aside0.mk (Kd.uY (ok' := fun k_ => some k_ ≠ (.slice Ao23 t281.length co23 : Value).ownBlock) (Kd.R_keptB ((Kd.R_apart' HO_275001.out (Kd.R_typed HO_286000.out) (by decide))) hkp (fun k_ hk_ hs_ => Or.elim hs_ (fun e_ => (hk_.2) e_) (fun e_ => (hk_.1) e_))) (fun k_ hk_ => hk_.1.1)); have n2_ := Aside0.mk (Kd.R_reok rfl hy0 (fun k_ e_ => HO_286000.out.1 k_ e_)); have n3_ := Aside0.mk (Kd.R_reok rfl hy1 (fun k_ e_ => HO_286001.out.1 k_ e_)); have n4_ := Aside0.mk (blk_kept (by (with_reducible repeat (first | refine uG ?_ _ | refine uI ?_ | refine uH ?_ _)); exact BK274.out) hkp (fun hs_ => Or.elim hs_ (fun e_ => (fun e_ => (Kd.R_ne HO_286000.out BK274.out (by decide)) e_) e_) (fun e_ => (fun e_ => (Kd.R_ne HO_286001.out BK274.out (by decide)) e_) e_))); have n5_ := Aside0.mk (blk_kept (by (with_reducible repeat (first | refine uG ?_ _ | refine uI ?_ | refine uH ?_ _)); exact BK285.out) hkp (fun hs_ => Or.elim hs_ (fun e_ => (fun e_ => (Kd.R_ne HO_286000.out BK285.out (by decide)) e_) e_) (fun e_ => (fun e_ => (Kd.R_ne HO_286001.out BK285.out (by decide)) e_) e_))); have n6_ := Aside0.mk (hb); clear HO_275000; clear HO_275001; clear HO_286000; clear HO_286001; clear BK274; clear BK285; clear HB; have HO_275000 := n0_; have HO_275001 := n1_; have HO_286000 := n2_; have HO_286001 := n3_; have BK274 := n4_; have BK285 := n5_; have HB := n6_; clear n0_ n1_ n2_ n3_ n4_ n5_ n6_; (try clear hb); (try clear hkp); (try clear hy0); (try clear hy1); have hcz66_0 : w65.cell? ⟨gb285, 0, none⟩ = some (.slice Ao20 t278.length co20) := (uE BK285.out 0).trans rfl; have hcz66_1 : w65.cell? ⟨gb285, 1, none⟩ = some (.slice Ao23 t281.length co23) := (uE BK285.out 1).trans rfl; have hfz66_0 := uD BK285.out 0; have hfz66_1 := uD BK285.out 1) | ((with_reducible refine uU (f := 16) rfl ?_); refine vE (some 67) rfl rfl Try.func16 (by kernel_rfl) rfl #[.agg #[.slice Ao20 t295.length co20, .slice Ao23 t296.length co23], .int .i64 1] rfl (by (try simp only [vV, List.map_cons, List.map_nil]); first | done | (rw [show t295.length = t278.length from (Kd.uW HO_286000.out).1.symm, show t296.length = t281.length from (Kd.uW HO_286001.out).1.symm] <;> rfl) | rfl | (simp only [vX, vW]; rfl)) ?_; (with_reducible refine (laws_heldMachine.calls kj38 _ _ t295 _ _ t296 1 t297 _ ?side1 ?side2 ?side3 ?side4 A57.out).mono ?_); (case side1 => repeat (first | exact (Kd.uW HO_286000.out).2.2 | (with_reducible refine Kd.vL ?_ _) | (with_reducible refine Kd.vM ?_ _) | (with_reducible refine Kd.vN ?_))); (case side2 => rw [show t295.length = t278.length from (Kd.uW HO_286000.out).1.symm]; exact (Kd.uW HO_286000.out).2.1); (case side3 => repeat (first | exact (Kd.uW HO_286001.out).2.2 | (with_reducible refine Kd.vL ?_ _) | (with_reducible refine Kd.vM ?_ _) | (with_reducible refine Kd.vN ?_))); (case side4 => rw [show t296.length = t281.length from (Kd.uW HO_286001.out).1.symm]; exact (Kd.uW HO_286001.out).2.1); rintro e w67 ⟨rfl, hb⟩; refine ⟨_, rfl, ?_⟩; have n0_ := Aside0.mk (Kd.uZ (by (with_reducible repeat (first | apply Kd.uO | apply Kd.uN | apply Kd.uQ)); exact HO_275000.out) hb); have n1_ := Aside0.mk (Kd.uZ (by (with_reducible repeat (first | apply Kd.uO | apply Kd.uN | apply Kd.uQ)); exact HO_275001.out) hb); have n2_ := Aside0.mk (Kd.uZ (by (with_reducible repeat (first | apply Kd.uO | apply Kd.uN | apply Kd.uQ)); exact HO_286000.out) hb); have n3_ := Aside0.mk (Kd.uZ (by (with_reducible repeat (first | apply Kd.uO | apply Kd.uN | apply Kd.uQ)); exact HO_286001.out) hb); have n4_ := Aside0.mk (uT (g := gb274) (o := .cells #[.slice Ao13 t267.length co13, .slice Ao15 t270.length co15] 31 (0, 0)) (by (with_reducible repeat (first | refine uG ?_ _ | refine uI ?_ | refine uH ?_ _)); exact BK274.out) hb); have n5_ := Aside0.mk (uT (g := gb285) (o := .cells #[.slice Ao20 t278.length co20, .slice Ao23 t281.length co23] 31 (0, 0)) (by (with_reducible repeat (first | refine uG ?_ _ | refine uI ?_ | refine uH ?_ _)); exact BK285.out) hb); have n6_ := Aside0.mk (uP (by repeat (first | (with_reducible first | exact HB.out | apply uC | apply uA | apply uB | refine uF ?_ GE274.out | refine uF ?_ GE285.out) | exact HB.out)) hb); clear HO_275000; clear HO_275001; clear HO_286000; clear HO_286001; clear BK274; clear BK285; clear HB; have HO_275000 := n0_; have HO_275001 := n1_; have HO_286000 := n2_; have HO_286001 := n3_; have BK274 := n4_; have BK285 := n5_; have HB := n6_; clear n0_ n1_ n2_ n3_ n4_ n5_ n6_; (try clear hb); (try clear hb2); (try clear hk); (try clear hi)) | ((with_reducible refine uU (f := 27) rfl ?_); refine vE (some 75) rfl rfl Try.func27 (by kernel_rfl) rfl #[.slice A0 l0.length c0] rfl (by (try simp only [vV, List.map_cons, List.map_nil]); first | done | rfl | (simp only [vX, vW]; rfl)) ?_; (with_reducible refine (laws_toEntryS.calls kj38 _ _ l0 t298 _ ?side1 ?side2 A60.out).mono ?_); (case side1 => repeat (first | exact (Kd.vC HR0.out HB.out) | (with_reducible refine Kd.vL ?_ _) | (with_reducible refine Kd.vM ?_ _) | (with_reducible refine Kd.vN ?_))); (case side2 => exact HC0.out); rintro e w68 ⟨v299, rfl, ho0, hb⟩; refine ⟨_, rfl, ?_⟩; have n0_ := Aside0.mk (Kd.uZ (by (with_reducible repeat (first | apply Kd.uO | apply Kd.uN | apply Kd.uQ)); exact HO_275000.out) hb); have n1_ := Aside0.mk (Kd.uZ (by (with_reducible repeat (first | apply Kd.uO | apply Kd.uN | apply Kd.uQ)); exact HO_275001.out) hb); have n2_ := Aside0.mk (Kd.uZ (by (with_reducible repeat (first | apply Kd.uO | apply Kd.uN | apply Kd.uQ)); exact HO_286000.out) hb); have n3_ := Aside0.mk (Kd.uZ (by (with_reducible repeat (first | apply Kd.uO | apply Kd.uN | apply Kd.uQ)); exact HO_286001.out) hb); have n4_ := Aside0.mk (Kd.vR ho0 (uK (by repeat (first | (with_reducible first | exact HB.out | apply uC | apply uA | apply uB | refine uF ?_ GE274.out | refine uF ?_ GE285.out) | exact HB.out)))); have n5_ := Aside0.mk (uT (g := gb274) (o := .cells #[.slice Ao13 t267.length co13, .slice Ao15 t270.length co15] 31 (0, 0)) (by (with_reducible repeat (first | refine uG ?_ _ | refine uI ?_ | refine uH ?_ _)); exact BK274.out) hb); have n6_ := Aside0.mk (uT (g := gb285) (o := .cells #[.slice Ao20 t278.length co20, .slice Ao23 t281.length co23] 31 (0, 0)) (by (with_reducible repeat (first | refine uG ?_ _ | refine uI ?_ | refine uH ?_ _)); exact BK285.out) hb); have n7_ := Aside0.mk (uP (by repeat (first | (with_reducible first | exact HB.out | apply uC | apply uA | apply uB | refine uF ?_ GE274.out | refine uF ?_ GE285.out) | exact HB.out)) hb); clear HO_275000; clear HO_275001; clear HO_286000; clear HO_286001; clear BK274; clear BK285; clear HB; have HO_275000 := n0_; have HO_275001 := n1_; have HO_286000 := n2_; have HO_286001 := n3_; have HO300 := n4_; have BK274 := n5_; have BK285 := n6_; have HB := n7_; clear n0_ n1_ n2_ n3_ n4_ n5_ n6_ n7_; (try clear hb); (try clear hb2); (try clear hk); (try clear hi); (try clear ho0); obtain ⟨Ao69, co69, eo69⟩ := Kd.vK HO300.out; subst eo69) | ((with_reducible refine uU (f := 31) rfl ?_); refine vE (some 76) rfl rfl Try.func31 (by kernel_rfl) rfl #[.slice Ao69 t298.length co69] rfl (by (try simp only [vV, List.map_cons, List.map_nil]); first | done | rfl | (simp only [vX, vW]; rfl)) ?_; (with_reducible refine (impl_ReplayLog.calls kj38 _ _ t298 t301 t304 t307 _ ?side1 ?side2 A61.out).mono ?_); (case side1 => repeat (first | exact (Kd.uW HO300.out).2.2 | (with_reducible refine Kd.vL ?_ _) | (with_reducible refine Kd.vM ?_ _) | (with_reducible refine Kd.vN ?_))); (case side2 => exact (Kd.uW HO300.out).2.1); rintro e w70 ⟨v302, v305, rfl, ho0, ho1, hb⟩; refine ⟨_, rfl, ?_⟩; have n0_ := Aside0.mk (Kd.R_elder' (by (with_reducible repeat (first | apply Kd.uO | apply Kd.uN | apply Kd.uQ)); exact HO_275000.out) (Kd.R_base ho0) hb); have n1_ := Aside0.mk (Kd.R_elder' (by (with_reducible repeat (first | apply Kd.uO | apply Kd.uN | apply Kd.uQ)); exact HO_275001.out) (Kd.R_base ho1) hb); have n2_ := Aside0.mk (Kd.R_elder' (by (with_reducible repeat (first | apply Kd.uO | apply Kd.uN | apply Kd.uQ)); exact HO_286000.out) (Kd.R_base ho0) hb); have n3_ := Aside0.mk (Kd.R_elder' (by (with_reducible repeat (first | apply Kd.uO | apply Kd.uN | apply Kd.uQ)); exact HO_286001.out) (Kd.R_base ho1) hb); have n4_ := Aside0.mk (Kd.uZ (by (with_reducible repeat (first | apply Kd.uO | apply Kd.uN | apply Kd.uQ)); exact HO300.out) hb); have n5_ := Aside0.mk (Kd.vR (Kd.R_new' (Kd.R_new' ho0 (Kd.R_lt (by (with_reducible repeat (first | apply Kd.uO | apply Kd.uN | apply Kd.uQ)); exact HO_275000.out))) (Kd.R_lt (by (with_reducible repeat (first | apply Kd.uO | apply Kd.uN | apply Kd.uQ)); exact HO_286000.out))) (uK (by repeat (first | (with_reducible first | exact HB.out | apply uC | apply uA | apply uB | refine uF ?_ GE274.out | refine uF ?_ GE285.out) | exact HB.out)))); have n6_ := Aside0.mk (Kd.vR (Kd.R_new' (Kd.R_new' ho1 (Kd.R_lt (by (with_reducible repeat (first | apply Kd.uO | apply Kd.uN | apply Kd.uQ)); exact HO_275001.out))) (Kd.R_lt (by (with_reducible repeat (first | apply Kd.uO | apply Kd.uN | apply Kd.uQ)); exact HO_286001.out))) (uK (by repeat (first | (with_reducible first | exact HB.out | apply uC | apply uA | apply uB | refine uF ?_ GE274.out | refine uF ?_ GE285.out) | exact HB.out)))); have n7_ := Aside0.mk (uT (g := gb274) (o := .cells #[.slice Ao13 t267.length co13, .slice Ao15 t270.length co15] 31 (0, 0)) (by (with_reducible repeat (first | refine uG ?_ _ | refine uI ?_ | refine uH ?_ _)); exact BK274.out) hb); have n8_ := Aside0.mk (uT (g := gb285) (o := .cells #[.slice Ao20 t278.length co20, .slice Ao23 t281.length co23] 31 (0, 0)) (by (with_reducible repeat (first | refine uG ?_ _ | refine uI ?_ | refine uH ?_ _)); exact BK285.out) hb); have n9_ := Aside0.mk (uP (by repeat (first | (with_reducible first | exact HB.out | apply uC | apply uA | apply uB | refine uF ?_ GE274.out | refine uF ?_ GE285.out) | exact HB.out)) hb); clear HO_275000; clear HO_275001; clear HO_286000; clear HO_286001; clear HO300; clear BK274; clear BK285; clear HB; have HO_275000 := n0_; have HO_275001 := n1_; have HO_286000 := n2_; have HO_286001 := n3_; have HO300 := n4_; have HO303 := n5_; have HO306 := n6_; have BK274 := n7_; have BK285 := n8_; have HB := n9_; clear n0_ n1_ n2_ n3_ n4_ n5_ n6_ n7_ n8_ n9_; (try clear hb); (try clear hb2); (try clear hk); (try clear hi); (try clear ho0); (try clear ho1)) | ((with_reducible refine uS (N := 12) rfl ?_); refine uR ?hg (N := 12) ?hd (cs := #[.slice none 0 0, .slice none 0 0]) (t := 31) ?hr ?_; (case hd => rfl); (case hg => rfl); (case hr => first | (go_simp; done) | (go_simp; rfl)); intro gb308 hg w71 hbox hb; have n0_ := Aside0.mk (Kd.uZ (by (with_reducible repeat (first | apply Kd.uO | apply Kd.uN | apply Kd.uQ)); exact HO_275000.out) hb); have n1_ := Aside0.mk (Kd.uZ (by (with_reducible repeat (first | apply Kd.uO | apply Kd.uN | apply Kd.uQ)); exact HO_275001.out) hb); have n2_ := Aside0.mk (Kd.uZ (by (with_reducible repeat (first | apply Kd.uO | apply Kd.uN | apply Kd.uQ)); exact HO_286000.out) hb); have n3_ := Aside0.mk (Kd.uZ (by (with_reducible repeat (first | apply Kd.uO | apply Kd.uN | apply Kd.uQ)); exact HO_286001.out) hb); have n4_ := Aside0.mk (Kd.uZ (by (with_reducible repeat (first | apply Kd.uO | apply Kd.uN | apply Kd.uQ)); exact HO300.out) hb); have n5_ := Aside0.mk (Kd.uZ (by (with_reducible repeat (first | apply Kd.uO | apply Kd.uN | apply Kd.uQ)); exact HO303.out) hb); have n6_ := Aside0.mk (Kd.uZ (by (with_reducible repeat (first | apply Kd.uO | apply Kd.uN | apply Kd.uQ)); exact HO306.out) hb); have n7_ := Aside0.mk (uT (g := gb274) (o := .cells #[.slice Ao13 t267.length co13, .slice Ao15 t270.length co15] 31 (0, 0)) (by (with_reducible repeat (first | refine uG ?_ _ | refine uI ?_ | refine uH ?_ _)); exact BK274.out) hb); have n8_ := Aside0.mk (uT (g := gb285) (o := .cells #[.slice Ao20 t278.length co20, .slice Ao23 t281.length co23] 31 (0, 0)) (by (with_reducible repeat (first | refine uG ?_ _ | refine uI ?_ | refine uH ?_ _)); exact BK285.out) hb); have n9_ := Aside0.mk (uP (by repeat (first | (with_reducible first | exact HB.out | apply uC | apply uA | apply uB | refine uF ?_ GE274.out | refine uF ?_ GE285.out) | exact HB.out)) hb); have n10_ := Aside0.mk (hbox); have n11_ := Aside0.mk ((by rw [hg]; exact (uK (by repeat (first | (with_reducible first | exact HB.out | apply uC | apply uA | apply uB | refine uF ?_ GE274.out | refine uF ?_ GE285.out) | exact HB.out))) : w.heap.size ≤ gb308)); have n12_ := Aside0.mk ((by rw [hg]; exact (uK (by repeat (first | (with_reducible first | exact HB.out | apply uC | apply uA | apply uB | refine uF ?_ GE274.out | refine uF ?_ GE285.out) | exact HB.out))) : w.heap.size ≤ gb308)); have n13_ := Aside0.mk ((by rw [hg]; exact Nat.ne_of_lt (vG (g := gb274) (o := .cells #[.slice Ao13 t267.length co13, .slice Ao15 t270.length co15] 31 (0, 0)) (by (with_reducible repeat (first | refine uG ?_ _ | refine uI ?_ | refine uH ?_ _)); exact BK274.out)) : gb274 ≠ gb308)); have n14_ := Aside0.mk ((by rw [hg]; exact Nat.ne_of_gt (vG (g := gb274) (o := .cells #[.slice Ao13 t267.length co13, .slice Ao15 t270.length co15] 31 (0, 0)) (by (with_reducible repeat (first | refine uG ?_ _ | refine uI ?_ | refine uH ?_ _)); exact BK274.out)) : gb308 ≠ gb274)); have n15_ := Aside0.mk ((by rw [hg]; exact Nat.ne_of_lt (vG (g := gb285) (o := .cells #[.slice Ao20 t278.length co20, .slice Ao23 t281.length co23] 31 (0, 0)) (by (with_reducible repeat (first | refine uG ?_ _ | refine uI ?_ | refine uH ?_ _)); exact BK285.out)) : gb285 ≠ gb308)); have n16_ := Aside0.mk ((by rw [hg]; exact Nat.ne_of_gt (vG (g := gb285) (o := .cells #[.slice Ao20 t278.length co20, .slice Ao23 t281.length co23] 31 (0, 0)) (by (with_reducible repeat (first | refine uG ?_ _ | refine uI ?_ | refine uH ?_ _)); exact BK285.out)) : gb308 ≠ gb285)); clear HO_275000; clear HO_275001; clear HO_286000; clear HO_286001; clear HO300; clear HO303; clear HO306; clear BK274; clear BK285; clear HB; have HO_275000 := n0_; have HO_275001 := n1_; have HO_286000 := n2_; have HO_286001 := n3_; have HO300 := n4_; have HO303 := n5_; have HO306 := n6_; have BK274 := n7_; have BK285 := n8_; have HB := n9_; have BK308 := n10_; have GW308 := n11_; have GE308 := n12_; have NB274_308 := n13_; have NB308_274 := n14_; have NB285_308 := n15_; have NB308_285 := n16_; clear n0_ n1_ n2_ n3_ n4_ n5_ n6_ n7_ n8_ n9_ n10_ n11_ n12_ n13_ n14_ n15_ n16_; clear hb hbox hg; obtain ⟨Ao72, co72, eo72⟩ := Kd.vK HO303.out; subst eo72; have hnb73 := NB308_274.out; have hnc73 := NB274_308.out; have hnb74 := NB308_285.out; have hnc74 := NB285_308.out; have hcz75_0 : w71.cell? ⟨gb308, 0, none⟩ = some (.slice none 0 0) := (uE BK308.out 0).trans rfl; have hcz75_1 : w71.cell? ⟨gb308, 1, none⟩ = some (.slice none 0 0) := (uE BK308.out 1).trans rfl; have hfz75_0 := uD BK308.out 0; have hfz75_1 := uD BK308.out 1; obtain ⟨Ao76, co76, eo76⟩ := Kd.vK HO306.out; subst eo76))
          (try simp only [Act.put, vS, vT, vU])
          go_cut [87] (fun v87 wc => ∃ (kq : Nat) (x87_61 : Bool), v87 = .bool x87_61 ∧ Aside0 (laws_FnExactReplayLog.j2 kq t294 x87_61 t295 t296 = some true) ∧ Aside0 (kq ≤ kj38) ∧ Aside0 (Kd.R (Kd.int .i64) 3 wc w.heap.size (fun k_ => some k_ ≠ ((.slice Ao20 t278.length co20) : Value).ownBlock ∧ some k_ ≠ ((.slice Ao72 t301.length co72) : Value).ownBlock) (.slice Ao13 t267.length co13) t267) ∧ Aside0 (Kd.R k49 49 wc w.heap.size (fun k_ => some k_ ≠ ((.slice Ao23 t281.length co23) : Value).ownBlock ∧ some k_ ≠ ((.slice Ao76 t304.length co76) : Value).ownBlock) (.slice Ao15 t270.length co15) t270) ∧ Aside0 (Kd.R (Kd.int .i64) 3 wc w.heap.size (fun k_ => some k_ ≠ ((.slice Ao13 t267.length co13) : Value).ownBlock ∧ some k_ ≠ ((.slice Ao72 t301.length co72) : Value).ownBlock) (.slice Ao20 t278.length co20) t295) ∧ Aside0 (Kd.R k49 49 wc w.heap.size (fun k_ => some k_ ≠ ((.slice Ao15 t270.length co15) : Value).ownBlock ∧ some k_ ≠ ((.slice Ao76 t304.length co76) : Value).ownBlock) (.slice Ao23 t281.length co23) t296) ∧ Aside0 (Kd.R (Kd.int .i64) 3 wc w.heap.size (fun k_ => some k_ ≠ ((.slice Ao13 t267.length co13) : Value).ownBlock ∧ some k_ ≠ ((.slice Ao20 t278.length co20) : Value).ownBlock) (.slice Ao72 t301.length co72) t301) ∧ Aside0 (Kd.R k49 49 wc w.heap.size (fun k_ => some k_ ≠ ((.slice Ao15 t270.length co15) : Value).ownBlock ∧ some k_ ≠ ((.slice Ao23 t281.length co23) : Value).ownBlock) (.slice Ao76 t304.length co76) t304) ∧ Aside0 (wc.heap[gb274]? = some (.cells #[(.slice Ao13 t267.length co13), (.slice Ao15 t270.length co15)] 31 (0, 0))) ∧ Aside0 (wc.heap[gb285]? = some (.cells #[(.slice Ao20 t278.length co20), (.slice Ao23 t281.length co23)] 31 (0, 0))) ∧ Aside0 (wc.heap[gb308]? = some (.cells #[(.slice Ao72 t301.length co72), (.slice Ao76 t304.length co76)] 31 (0, 0))) ∧ Aside0 (Below w.heap.size w wc))
          case first =>
            have H := HC62.out
            clear HC62
            replace H := Option.bind_eq_some_iff.mp H
            obtain ⟨t309, A770, H⟩ := H
            replace H : (if t309 = true then (laws_FnExactReplayLog.j2 kj38 t294 (t307 != t273) t295 t296) else (laws_FnExactReplayLog.j2 kj38 t294 true t295 t296)) = some true := H
            have A77 := Aside0.mk A770
            clear A770
            by_cases c78 : t309 = true
            · subst c78
              have H1 : (laws_FnExactReplayLog.j2 kj38 t294 (t307 != t273) t295 t296) = some true := by first | (rw [if_pos rfl] at H; exact H) | rfl
              clear H
              have H := H1
              clear H1
              have H' := Aside0.mk H
              clear H
              have hnb79 := NB308_274.out
              have hnc79 := NB274_308.out
              have hnb80 := NB308_285.out
              have hnc80 := NB285_308.out
              have hcz81_0 : w71.cell? ⟨gb308, 0, none⟩ = some (.slice none 0 0) := (uE BK308.out 0).trans rfl
              have hcz81_1 : w71.cell? ⟨gb308, 1, none⟩ = some (.slice none 0 0) := (uE BK308.out 1).trans rfl
              have hfz81_0 := uD BK308.out 0
              have hfz81_1 := uD BK308.out 1
              have hnb82 := NB274_285.out
              have hnc82 := NB285_274.out
              have hcz83_0 : w71.cell? ⟨gb274, 0, none⟩ = some (.slice Ao13 t267.length co13) := (uE BK274.out 0).trans rfl
              have hcz83_1 : w71.cell? ⟨gb274, 1, none⟩ = some (.slice Ao15 t270.length co15) := (uE BK274.out 1).trans rfl
              have hfz83_0 := uD BK274.out 0
              have hfz83_1 := uD BK274.out 1
              go_wp2_with (first | ((with_reducible refine uU (f := 13) rfl ?_); refine vE (some 81) rfl rfl Try.func13 (by kernel_rfl) rfl #[.agg #[.slice Ao72 t301.length co72, .slice Ao76 t304.length co76], .agg #[.slice Ao13 t267.length co13, .slice Ao15 t270.length co15]] rfl (by (try simp only [vV, List.map_cons, List.map_nil]); first | done | rfl | (simp only [vX, vW]; rfl)) ?_; (with_reducible refine (laws_eqMachine.calls kj38 _ _ t301 _ _ t304 _ _ t267 _ _ t270 true _ ?side1 ?side2 ?side3 ?side4 ?side5 ?side6 ?side7 ?side8 A77.out).mono ?_); (case side1 => refine (Kd.uW (e := 3) (base := w.heap.size) (ok := fun k_ => ((True ∧ some k_ ≠ (.slice Ao13 t267.length co13 : Value).ownBlock) ∧ some k_ ≠ (.slice Ao20 t278.length co20 : Value).ownBlock)) (n := t301.length) (c := co72) ?_).2.2; exact (by (with_reducible repeat (first | apply Kd.uO | apply Kd.uN | apply Kd.uQ)); exact (Kd.uY (Kd.uX (p := ⟨gb308, 1, none⟩) (Kd.uX (p := ⟨gb308, 0, none⟩) (Kd.vH HO303.out BK308.out (by decide)) (fun _ hk => hk.2) (.slice Ao72 t301.length co72)) (fun _ hk => hk.2) (.slice Ao76 t304.length co76)) (fun _ h_ => h_.1)))); (case side2 => exact (Kd.uW HO303.out).2.1); (case side3 => refine (Kd.uW (e := 49) (base := w.heap.size) (ok := fun k_ => ((True ∧ some k_ ≠ (.slice Ao15 t270.length co15 : Value).ownBlock) ∧ some k_ ≠ (.slice Ao23 t281.length co23 : Value).ownBlock)) (n := t304.length) (c := co76) ?_).2.2; exact (by (with_reducible repeat (first | apply Kd.uO | apply Kd.uN | apply Kd.uQ)); exact (Kd.uY (Kd.uX (p := ⟨gb308, 1, none⟩) (Kd.uX (p := ⟨gb308, 0, none⟩) (Kd.vH HO306.out BK308.out (by decide)) (fun _ hk => hk.2) (.slice Ao72 t301.length co72)) (fun _ hk => hk.2) (.slice Ao76 t304.length co76)) (fun _ h_ => h_.1)))); (case side4 => exact (Kd.uW HO306.out).2.1); (case side5 => refine (Kd.uW (e := 3) (base := w.heap.size) (ok := fun k_ => (some k_ ≠ (.slice Ao20 t278.length co20 : Value).ownBlock ∧ some k_ ≠ (.slice Ao72 t301.length co72 : Value).ownBlock)) (n := t267.length) (c := co13) ?_).2.2; exact (by (with_reducible repeat (first | apply Kd.uO | apply Kd.uN | apply Kd.uQ)); exact (Kd.uY (Kd.uX (p := ⟨gb308, 1, none⟩) (Kd.uX (p := ⟨gb308, 0, none⟩) (Kd.vH HO_275000.out BK308.out (by decide)) (fun _ hk => hk.2) (.slice Ao72 t301.length co72)) (fun _ hk => hk.2) (.slice Ao76 t304.length co76)) (fun _ h_ => h_.1)))); (case side6 => exact (Kd.uW HO_275000.out).2.1); (case side7 => refine (Kd.uW (e := 49) (base := w.heap.size) (ok := fun k_ => (some k_ ≠ (.slice Ao23 t281.length co23 : Value).ownBlock ∧ some k_ ≠ (.slice Ao76 t304.length co76 : Value).ownBlock)) (n := t270.length) (c := co15) ?_).2.2; exact (by (with_reducible repeat (first | apply Kd.uO | apply Kd.uN | apply Kd.uQ)); exact (Kd.uY (Kd.uX (p := ⟨gb308, 1, none⟩) (Kd.uX (p := ⟨gb308, 0, none⟩) (Kd.vH HO_275001.out BK308.out (by decide)) (fun _ hk => hk.2) (.slice Ao72 t301.length co72)) (fun _ hk => hk.2) (.slice Ao76 t304.length co76)) (fun _ h_ => h_.1)))); (case side8 => exact (Kd.uW HO_275001.out).2.1); rintro e w84 ⟨rfl, hb⟩; refine ⟨_, rfl, ?_⟩; have n0_ := Aside0.mk (Kd.uZ (by (with_reducible repeat (first | apply Kd.uO | apply Kd.uN | apply Kd.uQ)); exact (Kd.uY (Kd.uX (p := ⟨gb308, 1, none⟩) (Kd.uX (p := ⟨gb308, 0, none⟩) (Kd.vH HO_275000.out BK308.out (by decide)) (fun _ hk => hk.2) (.slice Ao72 t301.length co72)) (fun _ hk => hk.2) (.slice Ao76 t304.length co76)) (fun _ h_ => h_.1))) hb); have n1_ := Aside0.mk (Kd.uZ (by (with_reducible repeat (first | apply Kd.uO | apply Kd.uN | apply Kd.uQ)); exact (Kd.uY (Kd.uX (p := ⟨gb308, 1, none⟩) (Kd.uX (p := ⟨gb308, 0, none⟩) (Kd.vH HO_275001.out BK308.out (by decide)) (fun _ hk => hk.2) (.slice Ao72 t301.length co72)) (fun _ hk => hk.2) (.slice Ao76 t304.length co76)) (fun _ h_ => h_.1))) hb); have n2_ := Aside0.mk (Kd.uZ (by (with_reducible repeat (first | apply Kd.uO | apply Kd.uN | apply Kd.uQ)); exact (Kd.uY (Kd.uX (p := ⟨gb308, 1, none⟩) (Kd.uX (p := ⟨gb308, 0, none⟩) (Kd.vH HO_286000.out BK308.out (by decide)) (fun _ hk => hk.2) (.slice Ao72 t301.length co72)) (fun _ hk => hk.2) (.slice Ao76 t304.length co76)) (fun _ h_ => h_.1))) hb); have n3_ := Aside0.mk (Kd.uZ (by (with_reducible repeat (first | apply Kd.uO | apply Kd.uN | apply Kd.uQ)); exact (Kd.uY (Kd.uX (p := ⟨gb308, 1, none⟩) (Kd.uX (p := ⟨gb308, 0, none⟩) (Kd.vH HO_286001.out BK308.out (by decide)) (fun _ hk => hk.2) (.slice Ao72 t301.length co72)) (fun _ hk => hk.2) (.slice Ao76 t304.length co76)) (fun _ h_ => h_.1))) hb); have n4_ := Aside0.mk (Kd.uZ (by (with_reducible repeat (first | apply Kd.uO | apply Kd.uN | apply Kd.uQ)); exact (Kd.uY (Kd.uX (p := ⟨gb308, 1, none⟩) (Kd.uX (p := ⟨gb308, 0, none⟩) (Kd.vH HO300.out BK308.out (by decide)) (fun _ hk => hk.2) (.slice Ao72 t301.length co72)) (fun _ hk => hk.2) (.slice Ao76 t304.length co76)) (fun _ h_ => h_.1))) hb); have n5_ := Aside0.mk (Kd.uZ (by (with_reducible repeat (first | apply Kd.uO | apply Kd.uN | apply Kd.uQ)); exact (Kd.uY (Kd.uX (p := ⟨gb308, 1, none⟩) (Kd.uX (p := ⟨gb308, 0, none⟩) (Kd.vH HO303.out BK308.out (by decide)) (fun _ hk => hk.2) (.slice Ao72 t301.length co72)) (fun _ hk => hk.2) (.slice Ao76 t304.length co76)) (fun _ h_ => h_.1))) hb); have n6_ := Aside0.mk (Kd.uZ (by (with_reducible repeat (first | apply Kd.uO | apply Kd.uN | apply Kd.uQ)); exact (Kd.uY (Kd.uX (p := ⟨gb308, 1, none⟩) (Kd.uX (p := ⟨gb308, 0, none⟩) (Kd.vH HO306.out BK308.out (by decide)) (fun _ hk => hk.2) (.slice Ao72 t301.length co72)) (fun _ hk => hk.2) (.slice Ao76 t304.length co76)) (fun _ h_ => h_.1))) hb); have n7_ := Aside0.mk (uT (g := gb274) (o := .cells #[.slice Ao13 t267.length co13, .slice Ao15 t270.length co15] 31 (0, 0)) (by (with_reducible repeat (first | refine uG ?_ _ | refine uI ?_ | refine uH ?_ _)); refine vI ?_ NB274_308.out _; (with_reducible repeat (first | refine uG ?_ _ | refine uI ?_ | refine uH ?_ _)); refine vI ?_ NB274_308.out _; (with_reducible repeat (first | refine uG ?_ _ | refine uI ?_ | refine uH ?_ _)); exact BK274.out) hb); have n8_ := Aside0.mk (uT (g := gb285) (o := .cells #[.slice Ao20 t278.length co20, .slice Ao23 t281.length co23] 31 (0, 0)) (by (with_reducible repeat (first | refine uG ?_ _ | refine uI ?_ | refine uH ?_ _)); refine vI ?_ NB285_308.out _; (with_reducible repeat (first | refine uG ?_ _ | refine uI ?_ | refine uH ?_ _)); refine vI ?_ NB285_308.out _; (with_reducible repeat (first | refine uG ?_ _ | refine uI ?_ | refine uH ?_ _)); exact BK285.out) hb); have n9_ := Aside0.mk (uT (g := gb308) (o := .cells #[.slice Ao72 t301.length co72, .slice Ao76 t304.length co76] 31 (0, 0)) (by (with_reducible repeat (first | refine uG ?_ _ | refine uI ?_ | refine uH ?_ _)); refine vB (cs := #[.slice Ao72 t301.length co72, .slice none 0 0]) ?_ 1 _ rfl; (with_reducible repeat (first | refine uG ?_ _ | refine uI ?_ | refine uH ?_ _)); refine vB (cs := #[.slice none 0 0, .slice none 0 0]) ?_ 0 _ rfl; (with_reducible repeat (first | refine uG ?_ _ | refine uI ?_ | refine uH ?_ _)); exact BK308.out) hb); have n10_ := Aside0.mk (uP (by repeat (first | (with_reducible first | exact HB.out | apply uC | apply uA | apply uB | refine uF ?_ GE274.out | refine uF ?_ GE285.out | refine uF ?_ GE308.out) | exact HB.out)) hb); clear HO_275000; clear HO_275001; clear HO_286000; clear HO_286001; clear HO300; clear HO303; clear HO306; clear BK274; clear BK285; clear BK308; clear HB; have HO_275000 := n0_; have HO_275001 := n1_; have HO_286000 := n2_; have HO_286001 := n3_; have HO300 := n4_; have HO303 := n5_; have HO306 := n6_; have BK274 := n7_; have BK285 := n8_; have BK308 := n9_; have HB := n10_; clear n0_ n1_ n2_ n3_ n4_ n5_ n6_ n7_ n8_ n9_ n10_; (try clear hb); (try clear hb2); (try clear hk); (try clear hi)))
              go_meet
              case rel => exact ⟨_, ((t307 != t273)), (by first | rfl | (simp; done) | (simp [*]; done)), H', ⟨by have := HJ7.out; have := HJ38.out; first | omega | exact Nat.le_refl _⟩, ⟨by (with_reducible repeat (first | apply Kd.uO | apply Kd.uN | apply Kd.uQ)); exact HO_275000.out⟩, ⟨by (with_reducible repeat (first | apply Kd.uO | apply Kd.uN | apply Kd.uQ)); exact HO_275001.out⟩, ⟨by (with_reducible repeat (first | apply Kd.uO | apply Kd.uN | apply Kd.uQ)); exact HO_286000.out⟩, ⟨by (with_reducible repeat (first | apply Kd.uO | apply Kd.uN | apply Kd.uQ)); exact HO_286001.out⟩, ⟨by (with_reducible repeat (first | apply Kd.uO | apply Kd.uN | apply Kd.uQ)); exact Kd.uY HO303.out (fun _ hk => ⟨hk.1.2, hk.2⟩)⟩, ⟨by (with_reducible repeat (first | apply Kd.uO | apply Kd.uN | apply Kd.uQ)); exact Kd.uY HO306.out (fun _ hk => ⟨hk.1.2, hk.2⟩)⟩, ⟨by (with_reducible repeat (first | refine uG ?_ _ | refine uI ?_ | refine uH ?_ _)); exact BK274.out⟩, ⟨by (with_reducible repeat (first | refine uG ?_ _ | refine uI ?_ | refine uH ?_ _)); exact BK285.out⟩, ⟨by (with_reducible repeat (first | refine uG ?_ _ | refine uI ?_ | refine uH ?_ _)); exact BK308.out⟩, ⟨by repeat (first | (with_reducible first | exact HB.out | apply uC | apply uA | apply uB | refine uF ?_ GE274.out | refine uF ?_ GE285.out | refine uF ?_ GE308.out) | exact HB.out)⟩⟩
            replace c78 := Bool.eq_false_iff.mpr c78
            subst c78
            have H1 : (laws_FnExactReplayLog.j2 kj38 t294 true t295 t296) = some true := by first | (rw [if_neg (show ¬ (false = true) by decide)] at H; exact H) | rfl
            clear H
            have H := H1
            clear H1
            have H' := Aside0.mk H
            clear H
            have hnb85 := NB308_274.out
            have hnc85 := NB274_308.out
            have hnb86 := NB308_285.out
            have hnc86 := NB285_308.out
            have hcz87_0 : w71.cell? ⟨gb308, 0, none⟩ = some (.slice none 0 0) := (uE BK308.out 0).trans rfl
            have hcz87_1 : w71.cell? ⟨gb308, 1, none⟩ = some (.slice none 0 0) := (uE BK308.out 1).trans rfl
            have hfz87_0 := uD BK308.out 0
            have hfz87_1 := uD BK308.out 1
            have hnb88 := NB274_285.out
            have hnc88 := NB285_274.out
            have hcz89_0 : w71.cell? ⟨gb274, 0, none⟩ = some (.slice Ao13 t267.length co13) := (uE BK274.out 0).trans rfl
            have hcz89_1 : w71.cell? ⟨gb274, 1, none⟩ = some (.slice Ao15 t270.length co15) := (uE BK274.out 1).trans rfl
            have hfz89_0 := uD BK274.out 0
            have hfz89_1 := uD BK274.out 1
            go_wp2_with (first | ((with_reducible refine uU (f := 13) rfl ?_); refine vE (some 81) rfl rfl Try.func13 (by kernel_rfl) rfl #[.agg #[.slice Ao72 t301.length co72, .slice Ao76 t304.length co76], .agg #[.slice Ao13 t267.length co13, .slice Ao15 t270.length co15]] rfl (by (try simp only [vV, List.map_cons, List.map_nil]); first | done | rfl | (simp only [vX, vW]; rfl)) ?_; (with_reducible refine (laws_eqMachine.calls kj38 _ _ t301 _ _ t304 _ _ t267 _ _ t270 false _ ?side1 ?side2 ?side3 ?side4 ?side5 ?side6 ?side7 ?side8 A77.out).mono ?_); (case side1 => refine (Kd.uW (e := 3) (base := w.heap.size) (ok := fun k_ => ((True ∧ some k_ ≠ (.slice Ao13 t267.length co13 : Value).ownBlock) ∧ some k_ ≠ (.slice Ao20 t278.length co20 : Value).ownBlock)) (n := t301.length) (c := co72) ?_).2.2; exact (by (with_reducible repeat (first | apply Kd.uO | apply Kd.uN | apply Kd.uQ)); exact (Kd.uY (Kd.uX (p := ⟨gb308, 1, none⟩) (Kd.uX (p := ⟨gb308, 0, none⟩) (Kd.vH HO303.out BK308.out (by decide)) (fun _ hk => hk.2) (.slice Ao72 t301.length co72)) (fun _ hk => hk.2) (.slice Ao76 t304.length co76)) (fun _ h_ => h_.1)))); (case side2 => exact (Kd.uW HO303.out).2.1); (case side3 => refine (Kd.uW (e := 49) (base := w.heap.size) (ok := fun k_ => ((True ∧ some k_ ≠ (.slice Ao15 t270.length co15 : Value).ownBlock) ∧ some k_ ≠ (.slice Ao23 t281.length co23 : Value).ownBlock)) (n := t304.length) (c := co76) ?_).2.2; exact (by (with_reducible repeat (first | apply Kd.uO | apply Kd.uN | apply Kd.uQ)); exact (Kd.uY (Kd.uX (p := ⟨gb308, 1, none⟩) (Kd.uX (p := ⟨gb308, 0, none⟩) (Kd.vH HO306.out BK308.out (by decide)) (fun _ hk => hk.2) (.slice Ao72 t301.length co72)) (fun _ hk => hk.2) (.slice Ao76 t304.length co76)) (fun _ h_ => h_.1)))); (case side4 => exact (Kd.uW HO306.out).2.1); (case side5 => refine (Kd.uW (e := 3) (base := w.heap.size) (ok := fun k_ => (some k_ ≠ (.slice Ao20 t278.length co20 : Value).ownBlock ∧ some k_ ≠ (.slice Ao72 t301.length co72 : Value).ownBlock)) (n := t267.length) (c := co13) ?_).2.2; exact (by (with_reducible repeat (first | apply Kd.uO | apply Kd.uN | apply Kd.uQ)); exact (Kd.uY (Kd.uX (p := ⟨gb308, 1, none⟩) (Kd.uX (p := ⟨gb308, 0, none⟩) (Kd.vH HO_275000.out BK308.out (by decide)) (fun _ hk => hk.2) (.slice Ao72 t301.length co72)) (fun _ hk => hk.2) (.slice Ao76 t304.length co76)) (fun _ h_ => h_.1)))); (case side6 => exact (Kd.uW HO_275000.out).2.1); (case side7 => refine (Kd.uW (e := 49) (base := w.heap.size) (ok := fun k_ => (some k_ ≠ (.slice Ao23 t281.length co23 : Value).ownBlock ∧ some k_ ≠ (.slice Ao76 t304.length co76 : Value).ownBlock)) (n := t270.length) (c := co15) ?_).2.2; exact (by (with_reducible repeat (first | apply Kd.uO | apply Kd.uN | apply Kd.uQ)); exact (Kd.uY (Kd.uX (p := ⟨gb308, 1, none⟩) (Kd.uX (p := ⟨gb308, 0, none⟩) (Kd.vH HO_275001.out BK308.out (by decide)) (fun _ hk => hk.2) (.slice Ao72 t301.length co72)) (fun _ hk => hk.2) (.slice Ao76 t304.length co76)) (fun _ h_ => h_.1)))); (case side8 => exact (Kd.uW HO_275001.out).2.1); rintro e w90 ⟨rfl, hb⟩; refine ⟨_, rfl, ?_⟩; have n0_ := Aside0.mk (Kd.uZ (by (with_reducible repeat (first | apply Kd.uO | apply Kd.uN | apply Kd.uQ)); exact (Kd.uY (Kd.uX (p := ⟨gb308, 1, none⟩) (Kd.uX (p := ⟨gb308, 0, none⟩) (Kd.vH HO_275000.out BK308.out (by decide)) (fun _ hk => hk.2) (.slice Ao72 t301.length co72)) (fun _ hk => hk.2) (.slice Ao76 t304.length co76)) (fun _ h_ => h_.1))) hb); have n1_ := Aside0.mk (Kd.uZ (by (with_reducible repeat (first | apply Kd.uO | apply Kd.uN | apply Kd.uQ)); exact (Kd.uY (Kd.uX (p := ⟨gb308, 1, none⟩) (Kd.uX (p := ⟨gb308, 0, none⟩) (Kd.vH HO_275001.out BK308.out (by decide)) (fun _ hk => hk.2) (.slice Ao72 t301.length co72)) (fun _ hk => hk.2) (.slice Ao76 t304.length co76)) (fun _ h_ => h_.1))) hb); have n2_ := Aside0.mk (Kd.uZ (by (with_reducible repeat (first | apply Kd.uO | apply Kd.uN | apply Kd.uQ)); exact (Kd.uY (Kd.uX (p := ⟨gb308, 1, none⟩) (Kd.uX (p := ⟨gb308, 0, none⟩) (Kd.vH HO_286000.out BK308.out (by decide)) (fun _ hk => hk.2) (.slice Ao72 t301.length co72)) (fun _ hk => hk.2) (.slice Ao76 t304.length co76)) (fun _ h_ => h_.1))) hb); have n3_ := Aside0.mk (Kd.uZ (by (with_reducible repeat (first | apply Kd.uO | apply Kd.uN | apply Kd.uQ)); exact (Kd.uY (Kd.uX (p := ⟨gb308, 1, none⟩) (Kd.uX (p := ⟨gb308, 0, none⟩) (Kd.vH HO_286001.out BK308.out (by decide)) (fun _ hk => hk.2) (.slice Ao72 t301.length co72)) (fun _ hk => hk.2) (.slice Ao76 t304.length co76)) (fun _ h_ => h_.1))) hb); have n4_ := Aside0.mk (Kd.uZ (by (with_reducible repeat (first | apply Kd.uO | apply Kd.uN | apply Kd.uQ)); exact (Kd.uY (Kd.uX (p := ⟨gb308, 1, none⟩) (Kd.uX (p := ⟨gb308, 0, none⟩) (Kd.vH HO300.out BK308.out (by decide)) (fun _ hk => hk.2) (.slice Ao72 t301.length co72)) (fun _ hk => hk.2) (.slice Ao76 t304.length co76)) (fun _ h_ => h_.1))) hb); have n5_ := Aside0.mk (Kd.uZ (by (with_reducible repeat (first | apply Kd.uO | apply Kd.uN | apply Kd.uQ)); exact (Kd.uY (Kd.uX (p := ⟨gb308, 1, none⟩) (Kd.uX (p := ⟨gb308, 0, none⟩) (Kd.vH HO303.out BK308.out (by decide)) (fun _ hk => hk.2) (.slice Ao72 t301.length co72)) (fun _ hk => hk.2) (.slice Ao76 t304.length co76)) (fun _ h_ => h_.1))) hb); have n6_ := Aside0.mk (Kd.uZ (by (with_reducible repeat (first | apply Kd.uO | apply Kd.uN | apply Kd.uQ)); exact (Kd.uY (Kd.uX (p := ⟨gb308, 1, none⟩) (Kd.uX (p := ⟨gb308, 0, none⟩) (Kd.vH HO306.out BK308.out (by decide)) (fun _ hk => hk.2) (.slice Ao72 t301.length co72)) (fun _ hk => hk.2) (.slice Ao76 t304.length co76)) (fun _ h_ => h_.1))) hb); have n7_ := Aside0.mk (uT (g := gb274) (o := .cells #[.slice Ao13 t267.length co13, .slice Ao15 t270.length co15] 31 (0, 0)) (by (with_reducible repeat (first | refine uG ?_ _ | refine uI ?_ | refine uH ?_ _)); refine vI ?_ NB274_308.out _; (with_reducible repeat (first | refine uG ?_ _ | refine uI ?_ | refine uH ?_ _)); refine vI ?_ NB274_308.out _; (with_reducible repeat (first | refine uG ?_ _ | refine uI ?_ | refine uH ?_ _)); exact BK274.out) hb); have n8_ := Aside0.mk (uT (g := gb285) (o := .cells #[.slice Ao20 t278.length co20, .slice Ao23 t281.length co23] 31 (0, 0)) (by (with_reducible repeat (first | refine uG ?_ _ | refine uI ?_ | refine uH ?_ _)); refine vI ?_ NB285_308.out _; (with_reducible repeat (first | refine uG ?_ _ | refine uI ?_ | refine uH ?_ _)); refine vI ?_ NB285_308.out _; (with_reducible repeat (first | refine uG ?_ _ | refine uI ?_ | refine uH ?_ _)); exact BK285.out) hb); have n9_ := Aside0.mk (uT (g := gb308) (o := .cells #[.slice Ao72 t301.length co72, .slice Ao76 t304.length co76] 31 (0, 0)) (by (with_reducible repeat (first | refine uG ?_ _ | refine uI ?_ | refine uH ?_ _)); refine vB (cs := #[.slice Ao72 t301.length co72, .slice none 0 0]) ?_ 1 _ rfl; (with_reducible repeat (first | refine uG ?_ _ | refine uI ?_ | refine uH ?_ _)); refine vB (cs := #[.slice none 0 0, .slice none 0 0]) ?_ 0 _ rfl; (with_reducible repeat (first | refine uG ?_ _ | refine uI ?_ | refine uH ?_ _)); exact BK308.out) hb); have n10_ := Aside0.mk (uP (by repeat (first | (with_reducible first | exact HB.out | apply uC | apply uA | apply uB | refine uF ?_ GE274.out | refine uF ?_ GE285.out | refine uF ?_ GE308.out) | exact HB.out)) hb); clear HO_275000; clear HO_275001; clear HO_286000; clear HO_286001; clear HO300; clear HO303; clear HO306; clear BK274; clear BK285; clear BK308; clear HB; have HO_275000 := n0_; have HO_275001 := n1_; have HO_286000 := n2_; have HO_286001 := n3_; have HO300 := n4_; have HO303 := n5_; have HO306 := n6_; have BK274 := n7_; have BK285 := n8_; have BK308 := n9_; have HB := n10_; clear n0_ n1_ n2_ n3_ n4_ n5_ n6_ n7_ n8_ n9_ n10_; (try clear hb); (try clear hb2); (try clear hk); (try clear hi)))
            go_meet
            case rel => exact ⟨_, (true), (by first | rfl | (simp; done) | (simp [*]; done)), H', ⟨by have := HJ7.out; have := HJ38.out; first | omega | exact Nat.le_refl _⟩, ⟨by (with_reducible repeat (first | apply Kd.uO | apply Kd.uN | apply Kd.uQ)); exact HO_275000.out⟩, ⟨by (with_reducible repeat (first | apply Kd.uO | apply Kd.uN | apply Kd.uQ)); exact HO_275001.out⟩, ⟨by (with_reducible repeat (first | apply Kd.uO | apply Kd.uN | apply Kd.uQ)); exact HO_286000.out⟩, ⟨by (with_reducible repeat (first | apply Kd.uO | apply Kd.uN | apply Kd.uQ)); exact HO_286001.out⟩, ⟨by (with_reducible repeat (first | apply Kd.uO | apply Kd.uN | apply Kd.uQ)); exact Kd.uY HO303.out (fun _ hk => ⟨hk.1.2, hk.2⟩)⟩, ⟨by (with_reducible repeat (first | apply Kd.uO | apply Kd.uN | apply Kd.uQ)); exact Kd.uY HO306.out (fun _ hk => ⟨hk.1.2, hk.2⟩)⟩, ⟨by (with_reducible repeat (first | refine uG ?_ _ | refine uI ?_ | refine uH ?_ _)); exact BK274.out⟩, ⟨by (with_reducible repeat (first | refine uG ?_ _ | refine uI ?_ | refine uH ?_ _)); exact BK285.out⟩, ⟨by (with_reducible repeat (first | refine uG ?_ _ | refine uI ?_ | refine uH ?_ _)); exact BK308.out⟩, ⟨by repeat (first | (with_reducible first | exact HB.out | apply uC | apply uA | apply uB | refine uF ?_ GE274.out | refine uF ?_ GE285.out | refine uF ?_ GE308.out) | exact HB.out)⟩⟩
          case rest =>
            clear HC62
            try clear c1
            try clear c2
            try clear p2
            try clear c3
            try clear c3b0
            try clear c4
            try clear c5
            try clear c6
            try clear c7
            try clear c8
            try clear c13
            try clear c15
            try clear c16
            try clear c21
            try clear c25
            try clear c26
            try clear c27
            try clear c29
            try clear c30
            try clear c31
            try clear c32
            try clear c34
            try clear c37
            try clear c44
            try clear c44b0
            try clear c46
            try clear c47
            try clear c51
            try clear c55
            try clear c58
            try clear c58b0
            try clear c59
            try clear c59b0
            try clear c59b1
            try clear c63
            try clear c73
            try clear c74
            try clear c78
            try clear c79
            try clear c80
            try clear c82
            try clear c85
            try clear c86
            try clear c88
            try clear hcz14_0
            try clear hcz14_1
            try clear hcz22_0
            try clear hcz22_1
            try clear hcz27_0
            try clear hcz27_1
            try clear hcz28_0
            try clear hcz28_1
            try clear hcz31_0
            try clear hcz31_1
            try clear hcz32_0
            try clear hcz32_1
            try clear hcz48_0
            try clear hcz48_1
            try clear hcz49_0
            try clear hcz49_1
            try clear hcz52_0
            try clear hcz52_1
            try clear hcz53_0
            try clear hcz53_1
            try clear hcz64_0
            try clear hcz64_1
            try clear hcz66_0
            try clear hcz66_1
            try clear hcz75_0
            try clear hcz75_1
            try clear hcz81_0
            try clear hcz81_1
            try clear hcz83_0
            try clear hcz83_1
            try clear hcz87_0
            try clear hcz87_1
            try clear hcz89_0
            try clear hcz89_1
            try clear hfz14_0
            try clear hfz14_1
            try clear hfz22_0
            try clear hfz22_1
            try clear hfz27_0
            try clear hfz27_1
            try clear hfz28_0
            try clear hfz28_1
            try clear hfz31_0
            try clear hfz31_1
            try clear hfz32_0
            try clear hfz32_1
            try clear hfz48_0
            try clear hfz48_1
            try clear hfz49_0
            try clear hfz49_1
            try clear hfz52_0
            try clear hfz52_1
            try clear hfz53_0
            try clear hfz53_1
            try clear hfz64_0
            try clear hfz64_1
            try clear hfz66_0
            try clear hfz66_1
            try clear hfz75_0
            try clear hfz75_1
            try clear hfz81_0
            try clear hfz81_1
            try clear hfz83_0
            try clear hfz83_1
            try clear hfz87_0
            try clear hfz87_1
            try clear hfz89_0
            try clear hfz89_1
            try clear p2
            obtain ⟨kq, x87_61, rfl, HA, HJ61, HO_275000, HO_275001, HO_286000, HO_286001, HO_309000, HO_309001, BK274, BK285, BK308, HB⟩ := hcut
            have hl286000_61 := (Kd.uW HO_286000.out).1
            rw [hl286000_61] at HO_286000
            (try simp only [hl286000_61])
            (try simp only [hl286000_61] at BK274)
            (try simp only [hl286000_61] at BK285)
            (try simp only [hl286000_61] at BK308)
            (try simp only [hl286000_61] at HO_275000)
            (try simp only [hl286000_61] at HO_275001)
            (try simp only [hl286000_61] at HO_286001)
            (try simp only [hl286000_61] at HO_309000)
            (try simp only [hl286000_61] at HO_309001)
            have hl286001_61 := (Kd.uW HO_286001.out).1
            rw [hl286001_61] at HO_286001
            (try simp only [hl286001_61])
            (try simp only [hl286001_61] at BK274)
            (try simp only [hl286001_61] at BK285)
            (try simp only [hl286001_61] at BK308)
            (try simp only [hl286001_61] at HO_275000)
            (try simp only [hl286001_61] at HO_275001)
            (try simp only [hl286001_61] at HO_286000)
            (try simp only [hl286001_61] at HO_309000)
            (try simp only [hl286001_61] at HO_309001)
            cases kq with
            | zero => exact absurd HA.out (by simp [laws_FnExactReplayLog.j2])
            | succ kj61 =>
              have H := HA.out
              clear HA
              simp only [laws_FnExactReplayLog.j2] at H
              by_cases c91 : x87_61 = true
              · subst c91
                have H1 : (some false) = some true := by first | (rw [if_pos rfl] at H; exact H) | rfl
                clear H
                have H := H1
                clear H1
                exact absurd H (by simp)
              replace c91 := Bool.eq_false_iff.mpr c91
              subst c91
              have H1 : ((laws_heldMachine.f kj61 t295 t296 1).bind fun t310 => (if t310 < 0 then (some false) else (if t310 = t294 then (some true) else (some false)))) = some true := by first | (rw [if_neg (show ¬ (false = true) by decide)] at H; exact H) | rfl
              clear H
              have H := H1
              clear H1
              replace H := Option.bind_eq_some_iff.mp H
              obtain ⟨t310, A920, H⟩ := H
              replace H : (if t310 < 0 then (some false) else (if t310 = t294 then (some true) else (some false))) = some true := H
              have A92 := Aside0.mk A920
              clear A920
              by_cases c93 : t310 < 0
              · rw [if_pos c93] at H
                have c93b0 : decide (t310 < 0) = true := decide_eq_true c93
                clear c93
                exact absurd H (by simp)
              rw [if_neg c93] at H
              have c93b0 : decide (t310 < 0) = false := decide_eq_false c93
              clear c93
              by_cases c94 : t310 = t294
              rotate_left
              · rw [if_neg c94] at H
                have c94b0 : (t310 == t294) = false := beq_eq_false_iff_ne.mpr c94
                have c94b1 : (t310 != t294) = true := bne_iff_ne.mpr c94
                exact absurd H (by simp)
              rw [if_pos c94] at H
              have c94b0 : (t310 == t294) = true := beq_iff_eq.mpr c94
              have c94b1 : (t310 != t294) = false := bne_eq_false_iff_eq.mpr c94
              clear c94
              have hnb95 := NB285_274.out
              have hnc95 := NB274_285.out
              have hnb96 := NB285_308.out
              have hnc96 := NB308_285.out
              have hcz97_0 : wc.cell? ⟨gb285, 0, none⟩ = some (.slice Ao20 t295.length co20) := (uE BK285.out 0).trans rfl
              have hcz97_1 : wc.cell? ⟨gb285, 1, none⟩ = some (.slice Ao23 t296.length co23) := (uE BK285.out 1).trans rfl
              have hfz97_0 := uD BK285.out 0
              have hfz97_1 := uD BK285.out 1
              go_wp2_with (first | ((with_reducible refine uU (f := 16) rfl ?_); refine vE (some 90) rfl rfl Try.func16 (by kernel_rfl) rfl #[.agg #[.slice Ao20 t295.length co20, .slice Ao23 t296.length co23], .int .i64 1] rfl (by (try simp only [vV, List.map_cons, List.map_nil]); first | done | rfl | (simp only [vX, vW]; rfl)) ?_; (with_reducible refine (laws_heldMachine.calls kj61 _ _ t295 _ _ t296 1 t310 _ ?side1 ?side2 ?side3 ?side4 A92.out).mono ?_); (case side1 => repeat (first | exact (Kd.uW HO_286000.out).2.2 | (with_reducible refine Kd.vL ?_ _) | (with_reducible refine Kd.vM ?_ _) | (with_reducible refine Kd.vN ?_))); (case side2 => exact (Kd.uW HO_286000.out).2.1); (case side3 => repeat (first | exact (Kd.uW HO_286001.out).2.2 | (with_reducible refine Kd.vL ?_ _) | (with_reducible refine Kd.vM ?_ _) | (with_reducible refine Kd.vN ?_))); (case side4 => exact (Kd.uW HO_286001.out).2.1); rintro e w98 ⟨rfl, hb⟩; refine ⟨_, rfl, ?_⟩; have n0_ := Aside0.mk (Kd.uZ (by (with_reducible repeat (first | apply Kd.uO | apply Kd.uN | apply Kd.uQ)); exact HO_275000.out) hb); have n1_ := Aside0.mk (Kd.uZ (by (with_reducible repeat (first | apply Kd.uO | apply Kd.uN | apply Kd.uQ)); exact HO_275001.out) hb); have n2_ := Aside0.mk (Kd.uZ (by (with_reducible repeat (first | apply Kd.uO | apply Kd.uN | apply Kd.uQ)); exact HO_286000.out) hb); have n3_ := Aside0.mk (Kd.uZ (by (with_reducible repeat (first | apply Kd.uO | apply Kd.uN | apply Kd.uQ)); exact HO_286001.out) hb); have n4_ := Aside0.mk (Kd.uZ (by (with_reducible repeat (first | apply Kd.uO | apply Kd.uN | apply Kd.uQ)); exact HO_309000.out) hb); have n5_ := Aside0.mk (Kd.uZ (by (with_reducible repeat (first | apply Kd.uO | apply Kd.uN | apply Kd.uQ)); exact HO_309001.out) hb); have n6_ := Aside0.mk (uT (g := gb274) (o := .cells #[.slice Ao13 t267.length co13, .slice Ao15 t270.length co15] 31 (0, 0)) (by (with_reducible repeat (first | refine uG ?_ _ | refine uI ?_ | refine uH ?_ _)); exact BK274.out) hb); have n7_ := Aside0.mk (uT (g := gb285) (o := .cells #[.slice Ao20 t295.length co20, .slice Ao23 t296.length co23] 31 (0, 0)) (by (with_reducible repeat (first | refine uG ?_ _ | refine uI ?_ | refine uH ?_ _)); exact BK285.out) hb); have n8_ := Aside0.mk (uT (g := gb308) (o := .cells #[.slice Ao72 t301.length co72, .slice Ao76 t304.length co76] 31 (0, 0)) (by (with_reducible repeat (first | refine uG ?_ _ | refine uI ?_ | refine uH ?_ _)); exact BK308.out) hb); have n9_ := Aside0.mk (uP (by repeat (first | (with_reducible first | exact HB.out | apply uC | apply uA | apply uB | refine uF ?_ GE274.out | refine uF ?_ GE285.out | refine uF ?_ GE308.out) | exact HB.out)) hb); clear HO_275000; clear HO_275001; clear HO_286000; clear HO_286001; clear HO_309000; clear HO_309001; clear BK274; clear BK285; clear BK308; clear HB; have HO_275000 := n0_; have HO_275001 := n1_; have HO_286000 := n2_; have HO_286001 := n3_; have HO_309000 := n4_; have HO_309001 := n5_; have BK274 := n6_; have BK285 := n7_; have BK308 := n8_; have HB := n9_; clear n0_ n1_ n2_ n3_ n4_ n5_ n6_ n7_ n8_ n9_; (try clear hb); (try clear hb2); (try clear hk); (try clear hi)))
              go_ret
              exact ⟨by first | rfl | (simp [errW_none, errW_some] <;> rfl) | (simp [*, errW_none, errW_some] <;> rfl), by repeat (first | (with_reducible first | exact HB.out | apply uC | apply uA | apply uB | refine uF ?_ GE274.out | refine uF ?_ GE285.out | refine uF ?_ GE308.out) | exact HB.out)⟩

end Go.Proofs.Ytcikahnmiiichaa.R
