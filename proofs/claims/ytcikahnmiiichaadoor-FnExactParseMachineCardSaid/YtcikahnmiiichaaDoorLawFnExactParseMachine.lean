/- The row of the law FnExactParseMachine, out of its pure statement and the walk; no conditions. -/
import Derived.Test.YtcikahnmiiichaaDoorCards
import Derived.Test.YtcikahnmiiichaaDoorTie
import Derived.Test.YtcikahnmiiichaaDoorGiven
import Derived.LaidMore
import Derived.Stop.Joined
import Derived.SevenTiedAt
import Derived.Lay
import Derived.MakeChecks
import Derived.Test.YtcikahnmiiichaaDoorRows
import Derived.Test.YtcikahnmiiichaaDoorQFnExactParseMachine
import Derived.Test.YtcikahnmiiichaaDoorPureFnExactParseMachine
import Derived.WalkKit
import Derived.ProofKit
import Derived.OpenShut
import Derived.ShutString
import Derived.ChangeOld
import Derived.Below
import Derived.SizedLaws
import Derived.Test.YtcikahnmiiichaaDoorWSized
namespace Go.Proofs.YtcikahnmiiichaaDoor.fnExactParseMachine
open Go.ChangeShapes Go.WideShapes Go.ChangeAt Go.RowKit
open Go.ChangeMaps (open_string shut_string)
open Go.Proofs.YtcikahnmiiichaaDoor.P Go.Proofs.YtcikahnmiiichaaDoorW.PrintWords
open Go.Proofs.YtcikahnmiiichaaDoor.Opens
set_option linter.unusedVariables false
set_option linter.unusedSimpArgs false
theorem own : ownKnob Tryd.prog.godebug = none := by kernel_rfl
theorem laidOut : laidOutB Tryd.prog = true := by kernel_rfl
open Go.Proofs.YtcikahnmiiichaaDoor.Given
abbrev laidX : List (String × DataW Unit) := Rows.fnExactParseMachineRow.laid
set_option maxRecDepth 100000 in
theorem lifted (os : Os) (started : os.Started) (H : Type) (enc : TypeId × Value → H) :
    ReturnsInHanded {} Tryd.checked os 6 .any (fun w args => (Rows.fnExactParseMachineSpec.pre enc Tryd.prog Tryd.f6 Rows.fnExactParseMachineRow.domain false w args ∧ laidMetH Tryd.prog laidX w) ∧ sizedMet enc Tryd.prog Tryd.f6 (OpenSpec.ofChange Rows.fnExactParseMachineSpec) false w args) (Rows.fnExactParseMachineSpec.post enc Tryd.prog Tryd.f6 false true false false) := by
  refine returnsInHanded_of_change_and (C := Tryd.checked) (X := fun w _ => laidMetH Tryd.prog laidX w) (fun _ _ _ hh h => h.of_heap hh) own started (by kernel_rfl) Tryd.func6
    (ChangeSpec.witness_shaped (enc := enc) (C := Tryd.checked) (os := os) (X := fun w _ => laidMetH Tryd.prog laidX w) false (World.laidAll Tryd.prog os laidX) #[.string ByteArray.empty] 8 (World.laidAll_os _ _ _) (World.shaped_of_ZipB (by kernel_rfl) (by kernel_rfl)) (by kernel_rfl) (by kernel_rfl) (by kernel_rfl) (by rw [MakeChecks.laidMetH_plain _ _ _ (by kernel_rfl)]; exact laidMet_laidAll _ (by kernel_rfl) (by kernel_rfl))) ?_
  intro W base args ds gs before hval0 hW hcnd hsz0 hL _
  have hWF : WF W := wf_of_laid (show laidMet Tryd.prog laidX W from hL) (by first | exact .head _ | exact .tail _ (.head _) | exact .tail _ (.tail _ (.head _)))
  have hsz : (DataW.weightsEach Tryd.prog (Tryd.f6.params.toList ++ Rows.fnExactParseMachineSpec.plain.varTypes Tryd.prog) (ds ++ gs)).all (· ≤ reachBytes) = true := hsz0
  have hval : ∀ (j : Nat) t v, Tryd.f6.params[j]? = some t → args[j]? = some v → Value.okWide Tryd.prog W .any base t v := hval0
  have hW' := hW
  obtain ⟨p, q, hA0, hV, rfl, hfz, hnd⟩ := hW
  have hA : DataW.TrodAll enc Tryd.prog W 0 (fun _ => true) true Tryd.f6.params.toList args.toList ds p := hA0
  rw [Tryd.params6] at hA hval hsz
  obtain ⟨v0, vs0, d0, ds0, p0, q0, hargs, rfl, rfl, h0, r0⟩ := trodAll_cons hA
  obtain ⟨rfl, rfl, rfl⟩ := trodAll_nil r0
  obtain rfl : args = #[v0] := by cases args; simp_all
  obtain ⟨rfl, rfl⟩ := trodVars_none hV
  obtain ⟨a0, rfl, rfl, rfl, y0⟩ := open_string Tryd.underlying9 (hval 0 9 v0 rfl rfl) h0
  have w0 : a0.size ≤ 140737488351232 := by
    have z := sized_string hsz (j := 0) (t := 9) rfl rfl
    rw [Array.length_toList] at z
    exact z
  obtain ⟨k, h⟩ := Pure.FnExactParseMachine a0 w0
  refine (P.laws_FnExactParseMachine.calls k a0 W hWF h).mono fun e W' he => ?_
  obtain ⟨he, bel0⟩ := he
  have bel : Below W.heap.size W W' := bel0
  subst he
  exact ⟨_, rfl, _, _, _, [], _, [], hW', trodAll_mk1 (shut_bool Tryd.underlying4 _), (trodAll_cons_mk (shut_string Tryd.underlying9 y0) trodAll_mk0), rfl, bel.frame _, fun h => by cases h⟩
theorem over : Rows.fnExactParseMachineRow.holds Tryd.pinned (OpenSpec.ofChange Rows.fnExactParseMachineSpec) :=
  OpenClaim.holds_of_wide 6 Tryd.f6 rfl rfl rfl rfl rfl rfl rfl ⟨rfl, rfl, rfl, rfl, rfl⟩ rfl rfl rfl rfl rfl (by kernel_rfl) Tryd.func6 (by kernel_rfl)
    (of_decide_eq_true (by kernel_rfl)) (by unfold Func.isWrapper; first | (rw [if_pos (by decide +kernel)]; kernel_rfl) | (rw [if_neg (by decide +kernel)]; exact ⟨rfl, rfl⟩))
    (fun os started H enc _ => lifted os started H enc)
theorem proved : Rows.FnExactParseMachineCardSaid :=
  Claim7.holds_tied_plain_at .later [] [.data, .data, .data, .data, .pinned] true (true, "bfdf754554bb4da02fdd91082a384919353b83ae6e3dd82cc900a9e1f3372c5e") false over (fun _ h => by cases h) (by kernel_rfl) (fun _ h => by cases h) fnExactParseMachine_row_tie rfl ⟨rfl, rfl⟩ (by kernel_rfl) rfl
    (fun f fn hf hfn => by
      obtain rfl : f = 6 := (Option.some.inj ((show Tryd.prog.funcNamed "loop.example/g01926/laws.FnExactParseMachine" = some 6 by kernel_rfl).symm.trans hf)).symm
      obtain rfl : fn = Tryd.f6 := (Option.some.inj (Tryd.func6.symm.trans hfn)).symm
      refine ⟨by kernel_rfl, fun j t ht => ?_⟩
      have ht' : Tryd.f6.params[j]? = some t := ht
      rw [Tryd.params6] at ht'
      rcases j with _ | j
      · obtain rfl : t = 9 := by simpa using ht'.symm
        exact (show Tryd.prog.wantsStandIn 9 = false by kernel_rfl)
      simp at ht')
    (by kernel_rfl)
#print axioms proved
end Go.Proofs.YtcikahnmiiichaaDoor.fnExactParseMachine
namespace Go.Proofs.YtcikahnmiiichaaDoor
/-- The row, under a short name, for the claim. -/
theorem fnExactParseMachine_holds : Rows.FnExactParseMachineCardSaid := fnExactParseMachine.proved
end Go.Proofs.YtcikahnmiiichaaDoor
