/- The row of the law FnExactAppendEntry, out of its pure statement and the walk; no conditions. -/
import Derived.Test.YtdbkhngdckleoaaRows
import Derived.Test.YtdbkhngdckleoaaQFnExactAppendEntry
import Derived.Test.YtdbkhngdckleoaaPureFnExactAppendEntry
import Derived.WalkKit
import Derived.ProofKit
import Derived.OpenShut
import Derived.ShutString
import Derived.ChangeOld
import Derived.Below
import Derived.SizedLaws
import Derived.Test.YtdbkhngdckleoaaWSized
namespace Go.Proofs.Ytdbkhngdckleoaa.fnExactAppendEntry
open Go.ChangeShapes Go.WideShapes Go.ChangeAt Go.RowKit
open Go.ChangeMaps (open_string shut_string)
open Go.Proofs.Ytdbkhngdckleoaa.A Go.Proofs.YtdbkhngdckleoaaW.PrintWords
open Go.Proofs.Ytdbkhngdckleoaa.Opens
set_option linter.unusedVariables false
set_option linter.unusedSimpArgs false
theorem own : ownKnob Try.prog.godebug = none := by kernel_rfl
theorem laidOut : laidOutB Try.prog = true := by kernel_rfl
set_option maxRecDepth 100000 in
theorem lifted (os : Os) (started : os.Started) (H : Type) (enc : TypeId × Value → H) :
    ReturnsInHanded {} Try.checked os 4 .any (Rows.fnExactAppendEntrySpec.pre6 enc Try.prog Try.f4 Rows.fnExactAppendEntryRow.domain false) (Rows.fnExactAppendEntrySpec.post enc Try.prog Try.f4 false true false false) := by
  refine returnsInHanded_of_change_sized (C := Try.checked) own started (by kernel_rfl) Try.func4
    (ChangeSpec.witness6 (enc := enc) (C := Try.checked) false ⟨#[], #[.slice none 0 0, .agg #[.int .i64 0, .int .i64 0, .int .i64 0, .int .i64 0, .int .i64 0, .int .i64 0, .int .i64 0]], []⟩ 8 (by kernel_rfl) (by kernel_rfl) (by kernel_rfl) (by kernel_rfl)) ?_
  intro W base args ds gs before hval0 hW hcnd hsz0 _
  have hsz : (DataW.weightsEach Try.prog (Try.f4.params.toList ++ Rows.fnExactAppendEntrySpec.plain.varTypes Try.prog) (ds ++ gs)).all (· ≤ reachBytes) = true := hsz0
  have hval : ∀ (j : Nat) t v, Try.f4.params[j]? = some t → args[j]? = some v → Value.okWide Try.prog W .any base t v := hval0
  have hW' := hW
  obtain ⟨p, q, hA0, hV, rfl, hfz, hnd⟩ := hW
  have hA : DataW.TrodAll enc Try.prog W 0 (fun _ => true) true Try.f4.params.toList args.toList ds p := hA0
  rw [Try.params4] at hA hval hsz
  obtain ⟨v0, vs0, d0, ds0, p0, q0, hargs, rfl, rfl, h0, r0⟩ := trodAll_cons hA
  obtain ⟨v1, vs1, d1, ds1, p1, q1, rfl, rfl, rfl, h1, r1⟩ := trodAll_cons r0
  obtain ⟨rfl, rfl, rfl⟩ := trodAll_nil r1
  obtain rfl : args = #[v0, v1] := by cases args; simp_all
  obtain ⟨rfl, rfl⟩ := trodVars_none hV
  obtain ⟨a0, len0, cap0, rfl⟩ := okWide_slice Try.underlying22 (hval 0 22 v0 rfl rfl)
  have k0 := h0
  have lt0 : ∀ x ∈ p0, x.block < W.heap.size := by obtain ⟨m, hm⟩ := k0; exact DataW.trod_lt m _ _ _ hm
  have o0 : Opens Try.prog 22 (Kd.slice 32 k32) (fun a : List (S32) => (a.length ≤ maxLen ∧ ∀ za ∈ a, wf32 za)) := (opens_slice Try.underlying22 (by kernel_rfl) opens32)
  obtain ⟨l0, ⟨A0, c0, e0, hl0, hC0⟩, hw0⟩ := (by obtain ⟨fuel, hf⟩ := h0; exact o0.go H enc W 0 _ _ fuel _ _ hf : ∃ l, (Kd.slice 32 k32).K W l [Value.slice a0 len0 cap0] ∧ (fun a : List (S32) => (a.length ≤ maxLen ∧ ∀ za ∈ a, wf32 za)) l)
  simp only [List.cons.injEq, Value.slice.injEq, and_true] at e0
  obtain ⟨rfl, rfl, rfl⟩ := e0
  obtain ⟨cs1, rfl, hs1⟩ := okWide_struct Try.underlying32 (hval 1 32 v1 rfl rfl)
  have k1 := h1
  have lt1 : ∀ x ∈ p1, x.block < W.heap.size := by obtain ⟨m, hm⟩ := k1; exact DataW.trod_lt m _ _ _ hm
  obtain ⟨x1, hK1, hw1⟩ := (by obtain ⟨fuel, hf⟩ := h1; exact opens32.go H enc W 0 _ _ fuel _ _ hf : ∃ x, k32.K W x cs1.toList ∧ wf32 x)
  obtain e1 := k32_open hK1
  obtain rfl : cs1 = #[.int .i64 x1.f0, .int .i64 x1.f1.f0, .int .i64 x1.f1.f1, .int .i64 x1.f1.f2, .int .i64 x1.f1.f3, .int .i64 x1.f1.f4, .int .i64 x1.f1.f5] := by apply Array.ext'; simpa using e1
  obtain ⟨k, h⟩ := Pure.FnExactAppendEntry l0 x1 hw0 hw1
  refine (A.laws_FnExactAppendEntry.calls k _ _ l0 x1.f0 x1.f1.f0 x1.f1.f1 x1.f1.f2 x1.f1.f3 x1.f1.f4 x1.f1.f5 W hC0 hl0 h).mono fun e W' he => ?_
  obtain ⟨he, bel0⟩ := he
  have bel : Below W.heap.size W W' := bel0
  subst he
  exact ⟨_, rfl, _, _, _, [], _, [], hW', trodAll_mk1 (shut_bool Try.underlying4 _), (trodAll_cons_mk (Below.trod laidOut (by kernel_rfl) (of_decide_eq_true (by kernel_rfl)) k0 bel lt0) (trodAll_cons_mk (Below.trod laidOut (by kernel_rfl) (of_decide_eq_true (by kernel_rfl)) k1 bel lt1) trodAll_mk0)), rfl, bel.frame _, fun h => by cases h⟩
theorem over : Rows.fnExactAppendEntryRow.holds Try.pinned (OpenSpec.ofChange Rows.fnExactAppendEntrySpec) :=
  OpenClaim.holds_of_wide 4 Try.f4 rfl rfl rfl rfl rfl rfl rfl ⟨rfl, rfl, rfl, rfl, rfl⟩ rfl rfl rfl rfl rfl (by kernel_rfl) Try.func4 (by kernel_rfl)
    (of_decide_eq_true (by kernel_rfl)) (by unfold Func.isWrapper; first | (rw [if_pos (by decide +kernel)]; kernel_rfl) | (rw [if_neg (by decide +kernel)]; exact ⟨rfl, rfl⟩))
    (fun os started H enc _ => lifted os started H enc)
theorem proved : Rows.FnExactAppendEntrySaid := over
#print axioms proved
end Go.Proofs.Ytdbkhngdckleoaa.fnExactAppendEntry
namespace Go.Proofs.Ytdbkhngdckleoaa
/-- The row, under a short name, for the claim. -/
theorem fnExactAppendEntry_holds : Rows.FnExactAppendEntrySaid := fnExactAppendEntry.proved
end Go.Proofs.Ytdbkhngdckleoaa
