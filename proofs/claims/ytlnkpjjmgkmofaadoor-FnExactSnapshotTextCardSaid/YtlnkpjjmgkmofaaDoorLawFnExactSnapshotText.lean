/- The row of the law FnExactSnapshotText, out of its pure statement and the walk; no conditions. -/
import Derived.Test.YtlnkpjjmgkmofaaDoorCards
import Derived.Test.YtlnkpjjmgkmofaaDoorTie
import Derived.Test.YtlnkpjjmgkmofaaDoorGiven
import Derived.LaidMore
import Derived.Stop.Joined
import Derived.SevenTiedAt
import Derived.Test.YtlnkpjjmgkmofaaDoorRows
import Derived.Test.YtlnkpjjmgkmofaaDoorQFnExactSnapshotText
import Derived.Test.YtlnkpjjmgkmofaaDoorPureFnExactSnapshotText
import Derived.WalkKit
import Derived.ProofKit
import Derived.OpenShut
import Derived.ShutString
import Derived.ChangeOld
import Derived.Below
import Derived.SizedLaws
import Derived.Test.YtlnkpjjmgkmofaaDoorWSized
namespace Go.Proofs.YtlnkpjjmgkmofaaDoor.fnExactSnapshotText
open Go.ChangeShapes Go.WideShapes Go.ChangeAt Go.RowKit
open Go.ChangeMaps (open_string shut_string)
open Go.Proofs.YtlnkpjjmgkmofaaDoor.I Go.Proofs.YtlnkpjjmgkmofaaDoorW.PrintWords
open Go.Proofs.YtlnkpjjmgkmofaaDoor.Opens
set_option linter.unusedVariables false
set_option linter.unusedSimpArgs false
theorem own : ownKnob Tryd.prog.godebug = none := by kernel_rfl
theorem laidOut : laidOutB Tryd.prog = true := by kernel_rfl
open Go.Proofs.YtlnkpjjmgkmofaaDoor.Given
abbrev laidX : List (String × DataW Unit) := Rows.fnExactSnapshotTextRow.laid
theorem door_met (os : Os) (args : Array Value) : laidMetH Tryd.prog laidX ((World.doorLaid Tryd.prog 2000 os).forCall (fun _ _ => 0) ⟨#[], args, []⟩).memory :=
  laidMetH_of_parts3 (fuel := 8) (laidMet_of_run' 8 (by kernel_rfl) (by kernel_rfl)) (by kernel_rfl) (by kernel_rfl)
set_option maxRecDepth 100000 in
theorem lifted (os : Os) (started : os.Started) (H : Type) (enc : TypeId × Value → H) :
    ReturnsInHanded {} Tryd.checked os 11 .any (fun w args => (Rows.fnExactSnapshotTextSpec.pre enc Tryd.prog Tryd.f11 Rows.fnExactSnapshotTextRow.domain false w args ∧ laidMetH Tryd.prog laidX w) ∧ sizedMet enc Tryd.prog Tryd.f11 (OpenSpec.ofChange Rows.fnExactSnapshotTextSpec) false w args) (Rows.fnExactSnapshotTextSpec.post enc Tryd.prog Tryd.f11 false true false false) := by
  refine returnsInHanded_of_change_and (C := Tryd.checked) (X := fun w _ => laidMetH Tryd.prog laidX w) (fun _ _ _ hh h => h.of_heap hh) own started (by kernel_rfl) Tryd.func11
    (ChangeSpec.witness_shaped (enc := enc) (C := Tryd.checked) (os := os) (X := fun w _ => laidMetH Tryd.prog laidX w) false (World.doorLaid Tryd.prog 2000 os) #[.agg #[.int .i64 0, .int .i64 0, .slice none 0 0, .slice none 0 0]] 8 rfl (World.shaped_of_RefB (by kernel_rfl) (by kernel_rfl)) (by kernel_rfl) (by kernel_rfl) (by kernel_rfl) (door_met os _)) ?_
  intro W base args ds gs before hval0 hW hcnd hsz0 hL _
  have hWF : WF W := wf_of_laid (show laidMet Tryd.prog laidX W from hL) (by first | exact .head _ | exact .tail _ (.head _) | exact .tail _ (.tail _ (.head _)))
  have hsz : (DataW.weightsEach Tryd.prog (Tryd.f11.params.toList ++ Rows.fnExactSnapshotTextSpec.plain.varTypes Tryd.prog) (ds ++ gs)).all (· ≤ reachBytes) = true := hsz0
  have hval : ∀ (j : Nat) t v, Tryd.f11.params[j]? = some t → args[j]? = some v → Value.okWide Tryd.prog W .any base t v := hval0
  have hW' := hW
  obtain ⟨p, q, hA0, hV, rfl, hfz, hnd⟩ := hW
  have hA : DataW.TrodAll enc Tryd.prog W 0 (fun _ => true) true Tryd.f11.params.toList args.toList ds p := hA0
  rw [Tryd.params11] at hA hval hsz
  obtain ⟨v0, vs0, d0, ds0, p0, q0, hargs, rfl, rfl, h0, r0⟩ := trodAll_cons hA
  obtain ⟨rfl, rfl, rfl⟩ := trodAll_nil r0
  obtain rfl : args = #[v0] := by cases args; simp_all
  obtain ⟨rfl, rfl⟩ := trodVars_none hV
  obtain ⟨cs0, rfl, hs0⟩ := okWide_struct Tryd.underlying66 (hval 0 66 v0 rfl rfl)
  have k0 := h0
  have lt0 : ∀ x ∈ p0, x.block < W.heap.size := by obtain ⟨m, hm⟩ := k0; exact DataW.trod_lt m _ _ _ hm
  obtain ⟨x0, hK0, hw0⟩ := (by obtain ⟨fuel, hf⟩ := h0; exact opens66.go H enc W 0 _ _ fuel _ _ hf : ∃ x, k66.K W x cs0.toList ∧ wf66 x)
  obtain ⟨A0_2, c0_2, A0_3, c0_3, e0, hl0_2, hC0_2, hl0_3, hC0_3⟩ := k66_open hK0
  obtain rfl : cs0 = #[.int .i64 x0.f0, .int .i64 x0.f1, .slice A0_2 x0.f2.f0.length c0_2, .slice A0_3 x0.f2.f1.length c0_3] := by apply Array.ext'; simpa using e0
  obtain ⟨k, h⟩ := Pure.FnExactSnapshotText x0 hw0
  refine (I.laws_FnExactSnapshotText.calls k x0.f0 x0.f1 _ _ x0.f2.f0 _ _ x0.f2.f1 W hC0_2 hl0_2 hC0_3 hl0_3 hWF h).mono fun e W' he => ?_
  obtain ⟨he, bel0⟩ := he
  have bel : Below W.heap.size W W' := bel0
  subst he
  exact ⟨_, rfl, _, _, _, [], _, [], hW', trodAll_mk1 (shut_bool Tryd.underlying4 _), (trodAll_cons_mk (Below.trod laidOut (by kernel_rfl) (of_decide_eq_true (by kernel_rfl)) k0 bel lt0) trodAll_mk0), rfl, bel.frame _, fun h => by cases h⟩
theorem over : Rows.fnExactSnapshotTextRow.holds Tryd.pinned (OpenSpec.ofChange Rows.fnExactSnapshotTextSpec) :=
  OpenClaim.holds_of_wide 11 Tryd.f11 rfl rfl rfl rfl rfl rfl rfl ⟨rfl, rfl, rfl, rfl, rfl⟩ rfl rfl rfl rfl rfl (by kernel_rfl) Tryd.func11 (by kernel_rfl)
    (of_decide_eq_true (by kernel_rfl)) (by unfold Func.isWrapper; first | (rw [if_pos (by decide +kernel)]; kernel_rfl) | (rw [if_neg (by decide +kernel)]; exact ⟨rfl, rfl⟩))
    (fun os started H enc _ => lifted os started H enc)
theorem proved : Rows.FnExactSnapshotTextCardSaid :=
  Claim7.holds_tied_plain_at .later [] [.data, .data, .data] true (true, "0673aa8a0cac7672f7e15188d04d1fc8c182b145c66b718fcd0a3fb95064d57e") false over (fun _ h => by cases h) (by kernel_rfl) (fun _ h => by cases h) fnExactSnapshotText_row_tie rfl ⟨rfl, rfl⟩ (by kernel_rfl) rfl
    (fun f fn hf hfn => by
      obtain rfl : f = 11 := (Option.some.inj ((show Tryd.prog.funcNamed "loop.example/g01926/laws.FnExactSnapshotText" = some 11 by kernel_rfl).symm.trans hf)).symm
      obtain rfl : fn = Tryd.f11 := (Option.some.inj (Tryd.func11.symm.trans hfn)).symm
      refine ⟨by kernel_rfl, fun j t ht => ?_⟩
      have ht' : Tryd.f11.params[j]? = some t := ht
      rw [Tryd.params11] at ht'
      rcases j with _ | j
      · obtain rfl : t = 66 := by simpa using ht'.symm
        exact (show Tryd.prog.wantsStandIn 66 = false by kernel_rfl)
      simp at ht')
    (by kernel_rfl)
#print axioms proved
end Go.Proofs.YtlnkpjjmgkmofaaDoor.fnExactSnapshotText
namespace Go.Proofs.YtlnkpjjmgkmofaaDoor
/-- The row, under a short name, for the claim. -/
theorem fnExactSnapshotText_holds : Rows.FnExactSnapshotTextCardSaid := fnExactSnapshotText.proved
end Go.Proofs.YtlnkpjjmgkmofaaDoor
