/- The row of the law FnExactResultAt, out of its pure statement and the walk; no conditions. -/
import Derived.Test.YtcikahnmiiichaaRows
import Derived.Test.YtcikahnmiiichaaQFnExactResultAt
import Derived.Test.YtcikahnmiiichaaPureFnExactResultAt
import Derived.WalkKit
import Derived.ProofKit
import Derived.OpenShut
import Derived.ShutString
import Derived.ChangeOld
import Derived.Below
import Derived.SizedLaws
import Derived.Test.YtcikahnmiiichaaWSized
namespace Go.Proofs.Ytcikahnmiiichaa.fnExactResultAt
open Go.ChangeShapes Go.WideShapes Go.ChangeAt Go.RowKit
open Go.ChangeMaps (open_string shut_string)
open Go.Proofs.Ytcikahnmiiichaa.T Go.Proofs.YtcikahnmiiichaaW.PrintWords
open Go.Proofs.Ytcikahnmiiichaa.Opens
set_option linter.unusedVariables false
set_option linter.unusedSimpArgs false
theorem own : ownKnob Try.prog.godebug = none := by kernel_rfl
theorem laidOut : laidOutB Try.prog = true := by kernel_rfl
set_option maxRecDepth 100000 in
theorem lifted (os : Os) (started : os.Started) (H : Type) (enc : TypeId × Value → H) :
    ReturnsInHanded {} Try.checked os 5 .any (Rows.fnExactResultAtSpec.pre6 enc Try.prog Try.f5 Rows.fnExactResultAtRow.domain false) (Rows.fnExactResultAtSpec.post enc Try.prog Try.f5 false true false false) := by
  refine returnsInHanded_of_change_sized (C := Try.checked) own started (by kernel_rfl) Try.func5
    (ChangeSpec.witness6 (enc := enc) (C := Try.checked) false ⟨#[], #[.slice none 0 0, .int .i64 0], []⟩ 8 (by kernel_rfl) (by kernel_rfl) (by kernel_rfl) (by kernel_rfl)) ?_
  intro W base args ds gs before hval0 hW hcnd hsz0 _
  have hsz : (DataW.weightsEach Try.prog (Try.f5.params.toList ++ Rows.fnExactResultAtSpec.plain.varTypes Try.prog) (ds ++ gs)).all (· ≤ reachBytes) = true := hsz0
  have hval : ∀ (j : Nat) t v, Try.f5.params[j]? = some t → args[j]? = some v → Value.okWide Try.prog W .any base t v := hval0
  have hW' := hW
  obtain ⟨p, q, hA0, hV, rfl, hfz, hnd⟩ := hW
  have hA : DataW.TrodAll enc Try.prog W 0 (fun _ => true) true Try.f5.params.toList args.toList ds p := hA0
  rw [Try.params5] at hA hval hsz
  obtain ⟨v0, vs0, d0, ds0, p0, q0, hargs, rfl, rfl, h0, r0⟩ := trodAll_cons hA
  obtain ⟨v1, vs1, d1, ds1, p1, q1, rfl, rfl, rfl, h1, r1⟩ := trodAll_cons r0
  obtain ⟨rfl, rfl, rfl⟩ := trodAll_nil r1
  obtain rfl : args = #[v0, v1] := by cases args; simp_all
  obtain ⟨rfl, rfl⟩ := trodVars_none hV
  obtain ⟨a0, len0, cap0, rfl⟩ := okWide_slice Try.underlying54 (hval 0 54 v0 rfl rfl)
  have k0 := h0
  have lt0 : ∀ x ∈ p0, x.block < W.heap.size := by obtain ⟨m, hm⟩ := k0; exact DataW.trod_lt m _ _ _ hm
  have o0 : Opens Try.prog 54 (Kd.slice 97 k97) (fun a : List (S97) => (a.length ≤ maxLen ∧ ∀ za ∈ a, wf97 za)) := (opens_slice Try.underlying54 (by kernel_rfl) opens97)
  obtain ⟨l0, ⟨A0, c0, e0, hl0, hC0⟩, hw0⟩ := (by obtain ⟨fuel, hf⟩ := h0; exact o0.go H enc W 0 _ _ fuel _ _ hf : ∃ l, (Kd.slice 97 k97).K W l [Value.slice a0 len0 cap0] ∧ (fun a : List (S97) => (a.length ≤ maxLen ∧ ∀ za ∈ a, wf97 za)) l)
  simp only [List.cons.injEq, Value.slice.injEq, and_true] at e0
  obtain ⟨rfl, rfl, rfl⟩ := e0
  obtain ⟨a1, rfl, rfl, rfl, w1⟩ := open_int Try.underlying3 (hval 1 3 v1 rfl rfl) h1
  obtain ⟨k, h⟩ := Pure.FnExactResultAt l0 a1 hw0 w1
  refine (T.laws_FnExactResultAt.calls k _ _ l0 a1 W hC0 hl0 h).mono fun e W' he => ?_
  obtain ⟨he, bel0⟩ := he
  have bel : Below W.heap.size W W' := bel0
  subst he
  exact ⟨_, rfl, _, _, _, [], _, [], hW', trodAll_mk1 (shut_bool Try.underlying4 _), (trodAll_cons_mk (Below.trod laidOut (by kernel_rfl) (of_decide_eq_true (by kernel_rfl)) k0 bel lt0) (trodAll_cons_mk (shut_int Try.underlying3 w1) trodAll_mk0)), rfl, bel.frame _, fun h => by cases h⟩
theorem over : Rows.fnExactResultAtRow.holds Try.pinned (OpenSpec.ofChange Rows.fnExactResultAtSpec) :=
  OpenClaim.holds_of_wide 5 Try.f5 rfl rfl rfl rfl rfl rfl rfl ⟨rfl, rfl, rfl, rfl, rfl⟩ rfl rfl rfl rfl rfl (by kernel_rfl) Try.func5 (by kernel_rfl)
    (of_decide_eq_true (by kernel_rfl)) (by unfold Func.isWrapper; first | (rw [if_pos (by decide +kernel)]; kernel_rfl) | (rw [if_neg (by decide +kernel)]; exact ⟨rfl, rfl⟩))
    (fun os started H enc _ => lifted os started H enc)
theorem proved : Rows.FnExactResultAtSaid := over
#print axioms proved
end Go.Proofs.Ytcikahnmiiichaa.fnExactResultAt
namespace Go.Proofs.Ytcikahnmiiichaa
/-- The row, under a short name, for the claim. -/
theorem fnExactResultAt_holds : Rows.FnExactResultAtSaid := fnExactResultAt.proved
end Go.Proofs.Ytcikahnmiiichaa
