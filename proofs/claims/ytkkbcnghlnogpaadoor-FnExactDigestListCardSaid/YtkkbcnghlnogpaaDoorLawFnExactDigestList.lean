/- The row of the law FnExactDigestList, out of its pure statement and the walk; no conditions. -/
import Derived.Test.YtkkbcnghlnogpaaDoorCards
import Derived.Test.YtkkbcnghlnogpaaDoorTie
import Derived.Test.YtkkbcnghlnogpaaDoorGiven
import Derived.LaidMore
import Derived.Stop.Joined
import Derived.SevenTiedAt
import Derived.Test.YtkkbcnghlnogpaaDoorRows
import Derived.Test.YtkkbcnghlnogpaaDoorQFnExactDigestList
import Derived.Test.YtkkbcnghlnogpaaDoorPureFnExactDigestList
import Derived.WalkKit
import Derived.ProofKit
import Derived.OpenShut
import Derived.ShutString
import Derived.ChangeOld
import Derived.Below
import Derived.SizedLaws
import Derived.Test.YtkkbcnghlnogpaaDoorWSized
namespace Go.Proofs.YtkkbcnghlnogpaaDoor.fnExactDigestList
open Go.ChangeShapes Go.WideShapes Go.ChangeAt Go.RowKit
open Go.ChangeMaps (open_string shut_string)
open Go.Proofs.YtkkbcnghlnogpaaDoor.D Go.Proofs.YtkkbcnghlnogpaaDoorW.PrintWords
open Go.Proofs.YtkkbcnghlnogpaaDoor.Opens
set_option linter.unusedVariables false
set_option linter.unusedSimpArgs false
theorem own : ownKnob Tryd.prog.godebug = none := by kernel_rfl
theorem laidOut : laidOutB Tryd.prog = true := by kernel_rfl
open Go.Proofs.YtkkbcnghlnogpaaDoor.Given
abbrev laidX : List (String × DataW Unit) := Rows.fnExactDigestListRow.laid
theorem door_met (os : Os) (args : Array Value) : laidMetH Tryd.prog laidX ((World.doorLaid Tryd.prog 2000 os).forCall (fun _ _ => 0) ⟨#[], args, []⟩).memory :=
  laidMetH_of_parts3 (fuel := 8) (laidMet_of_run' 8 (by kernel_rfl) (by kernel_rfl)) (by kernel_rfl) (by kernel_rfl)
set_option maxRecDepth 100000 in
theorem lifted (os : Os) (started : os.Started) (H : Type) (enc : TypeId × Value → H) :
    ReturnsInHanded {} Tryd.checked os 8 .any (fun w args => (Rows.fnExactDigestListSpec.pre enc Tryd.prog Tryd.f8 Rows.fnExactDigestListRow.domain false w args ∧ laidMetH Tryd.prog laidX w) ∧ sizedMet enc Tryd.prog Tryd.f8 (OpenSpec.ofChange Rows.fnExactDigestListSpec) false w args) (Rows.fnExactDigestListSpec.post enc Tryd.prog Tryd.f8 false true false false) := by
  refine returnsInHanded_of_change_and (C := Tryd.checked) (X := fun w _ => laidMetH Tryd.prog laidX w) (fun _ _ _ hh h => h.of_heap hh) own started (by kernel_rfl) Tryd.func8
    (ChangeSpec.witness_shaped (enc := enc) (C := Tryd.checked) (os := os) (X := fun w _ => laidMetH Tryd.prog laidX w) false (World.doorLaid Tryd.prog 2000 os) #[.slice none 0 0] 8 rfl (World.shaped_of_RefB (by kernel_rfl) (by kernel_rfl)) (by kernel_rfl) (by kernel_rfl) (by kernel_rfl) (door_met os _)) ?_
  intro W base args ds gs before hval0 hW hcnd hsz0 hL _
  have hWF : WF W := wf_of_laid (show laidMet Tryd.prog laidX W from hL) (by first | exact .head _ | exact .tail _ (.head _) | exact .tail _ (.tail _ (.head _)))
  have hsz : (DataW.weightsEach Tryd.prog (Tryd.f8.params.toList ++ Rows.fnExactDigestListSpec.plain.varTypes Tryd.prog) (ds ++ gs)).all (· ≤ reachBytes) = true := hsz0
  have hval : ∀ (j : Nat) t v, Tryd.f8.params[j]? = some t → args[j]? = some v → Value.okWide Tryd.prog W .any base t v := hval0
  have hW' := hW
  obtain ⟨p, q, hA0, hV, rfl, hfz, hnd⟩ := hW
  have hA : DataW.TrodAll enc Tryd.prog W 0 (fun _ => true) true Tryd.f8.params.toList args.toList ds p := hA0
  rw [Tryd.params8] at hA hval hsz
  obtain ⟨v0, vs0, d0, ds0, p0, q0, hargs, rfl, rfl, h0, r0⟩ := trodAll_cons hA
  obtain ⟨rfl, rfl, rfl⟩ := trodAll_nil r0
  obtain rfl : args = #[v0] := by cases args; simp_all
  obtain ⟨rfl, rfl⟩ := trodVars_none hV
  obtain ⟨a0, len0, cap0, rfl⟩ := okWide_slice Tryd.underlying37 (hval 0 37 v0 rfl rfl)
  have k0 := h0
  have lt0 : ∀ x ∈ p0, x.block < W.heap.size := by obtain ⟨m, hm⟩ := k0; exact DataW.trod_lt m _ _ _ hm
  have o0 : Opens Tryd.prog 37 (Kd.slice 82 k82) (fun a : List (S82) => (a.length ≤ maxLen ∧ ∀ za ∈ a, wf82 za)) := (opens_slice Tryd.underlying37 (by kernel_rfl) opens82)
  obtain ⟨l0, ⟨A0, c0, e0, hl0, hC0⟩, hw0⟩ := (by obtain ⟨fuel, hf⟩ := h0; exact o0.go H enc W 0 _ _ fuel _ _ hf : ∃ l, (Kd.slice 82 k82).K W l [Value.slice a0 len0 cap0] ∧ (fun a : List (S82) => (a.length ≤ maxLen ∧ ∀ za ∈ a, wf82 za)) l)
  simp only [List.cons.injEq, Value.slice.injEq, and_true] at e0
  obtain ⟨rfl, rfl, rfl⟩ := e0
  obtain ⟨k, h⟩ := Pure.FnExactDigestList l0 hw0
  refine (D.laws_FnExactDigestList.calls k _ _ l0 W hC0 hl0 hWF h).mono fun e W' he => ?_
  obtain ⟨he, bel0⟩ := he
  have bel : Below W.heap.size W W' := bel0
  subst he
  exact ⟨_, rfl, _, _, _, [], _, [], hW', trodAll_mk1 (shut_bool Tryd.underlying4 _), (trodAll_cons_mk (Below.trod laidOut (by kernel_rfl) (of_decide_eq_true (by kernel_rfl)) k0 bel lt0) trodAll_mk0), rfl, bel.frame _, fun h => by cases h⟩
theorem over : Rows.fnExactDigestListRow.holds Tryd.pinned (OpenSpec.ofChange Rows.fnExactDigestListSpec) :=
  OpenClaim.holds_of_wide 8 Tryd.f8 rfl rfl rfl rfl rfl rfl rfl ⟨rfl, rfl, rfl, rfl, rfl⟩ rfl rfl rfl rfl rfl (by kernel_rfl) Tryd.func8 (by kernel_rfl)
    (of_decide_eq_true (by kernel_rfl)) (by unfold Func.isWrapper; first | (rw [if_pos (by decide +kernel)]; kernel_rfl) | (rw [if_neg (by decide +kernel)]; exact ⟨rfl, rfl⟩))
    (fun os started H enc _ => lifted os started H enc)
theorem proved : Rows.FnExactDigestListCardSaid :=
  Claim7.holds_tied_plain_at .later [] [.data, .data, .data] true (true, "d9f5c10826611598d302782779e7738221be45a136b7b880a400823a9a91d686") false over (fun _ h => by cases h) (by kernel_rfl) (fun _ h => by cases h) fnExactDigestList_row_tie rfl ⟨rfl, rfl⟩ (by kernel_rfl) rfl
    (fun f fn hf hfn => by
      obtain rfl : f = 8 := (Option.some.inj ((show Tryd.prog.funcNamed "loop.example/g01926/laws.FnExactDigestList" = some 8 by kernel_rfl).symm.trans hf)).symm
      obtain rfl : fn = Tryd.f8 := (Option.some.inj (Tryd.func8.symm.trans hfn)).symm
      refine ⟨by kernel_rfl, fun j t ht => ?_⟩
      have ht' : Tryd.f8.params[j]? = some t := ht
      rw [Tryd.params8] at ht'
      rcases j with _ | j
      · obtain rfl : t = 37 := by simpa using ht'.symm
        exact (show Tryd.prog.wantsStandIn 37 = false by kernel_rfl)
      simp at ht')
    (by kernel_rfl)
#print axioms proved
end Go.Proofs.YtkkbcnghlnogpaaDoor.fnExactDigestList
namespace Go.Proofs.YtkkbcnghlnogpaaDoor
/-- The row, under a short name, for the claim. -/
theorem fnExactDigestList_holds : Rows.FnExactDigestListCardSaid := fnExactDigestList.proved
end Go.Proofs.YtkkbcnghlnogpaaDoor
