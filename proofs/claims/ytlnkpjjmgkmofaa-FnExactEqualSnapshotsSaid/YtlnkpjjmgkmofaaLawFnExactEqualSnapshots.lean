/- The row of the law FnExactEqualSnapshots, out of its pure statement and the walk; no conditions. -/
import Derived.Test.YtlnkpjjmgkmofaaRows
import Derived.Test.YtlnkpjjmgkmofaaQFnExactEqualSnapshots
import Derived.Test.YtlnkpjjmgkmofaaPureFnExactEqualSnapshots
import Derived.WalkKit
import Derived.ProofKit
import Derived.OpenShut
import Derived.ShutString
import Derived.ChangeOld
import Derived.Below
import Derived.SizedLaws
import Derived.Test.YtlnkpjjmgkmofaaWSized
namespace Go.Proofs.Ytlnkpjjmgkmofaa.fnExactEqualSnapshots
open Go.ChangeShapes Go.WideShapes Go.ChangeAt Go.RowKit
open Go.ChangeMaps (open_string shut_string)
open Go.Proofs.Ytlnkpjjmgkmofaa.A Go.Proofs.YtlnkpjjmgkmofaaW.PrintWords
open Go.Proofs.Ytlnkpjjmgkmofaa.Opens
set_option linter.unusedVariables false
set_option linter.unusedSimpArgs false
theorem own : ownKnob Try.prog.godebug = none := by kernel_rfl
theorem laidOut : laidOutB Try.prog = true := by kernel_rfl
set_option maxRecDepth 100000 in
theorem lifted (os : Os) (started : os.Started) (H : Type) (enc : TypeId × Value → H) :
    ReturnsInHanded {} Try.checked os 4 .any (Rows.fnExactEqualSnapshotsSpec.pre6 enc Try.prog Try.f4 Rows.fnExactEqualSnapshotsRow.domain false) (Rows.fnExactEqualSnapshotsSpec.post enc Try.prog Try.f4 false true false false) := by
  refine returnsInHanded_of_change_sized (C := Try.checked) own started (by kernel_rfl) Try.func4
    (ChangeSpec.witness6 (enc := enc) (C := Try.checked) false ⟨#[], #[.agg #[.int .i64 0, .int .i64 0, .slice none 0 0, .slice none 0 0], .agg #[.int .i64 0, .int .i64 0, .slice none 0 0, .slice none 0 0]], []⟩ 8 (by kernel_rfl) (by kernel_rfl) (by kernel_rfl) (by kernel_rfl)) ?_
  intro W base args ds gs before hval0 hW hcnd hsz0 _
  have hsz : (DataW.weightsEach Try.prog (Try.f4.params.toList ++ Rows.fnExactEqualSnapshotsSpec.plain.varTypes Try.prog) (ds ++ gs)).all (· ≤ reachBytes) = true := hsz0
  have hval : ∀ (j : Nat) t v, Try.f4.params[j]? = some t → args[j]? = some v → Value.okWide Try.prog W .any base t v := hval0
  have hW' := hW
  obtain ⟨p, q, hA0, hV, rfl, hfz, hnd⟩ := hW
  have hA : DataW.TrodAll enc Try.prog W 0 (fun _ => true) true Try.f4.params.toList args.toList ds p := hA0
  rw [Try.params4] at hA hval hsz
  obtain ⟨v0, vs0, d0, ds0, p0, q0, hargs, rfl, rfl, h0, r0⟩ := trodAll_cons hA
  obtain ⟨v1, vs1, d1, ds1, p1, q1, rfl, rfl, rfl, h1, r1⟩ := trodAll_cons r0
  obtain ⟨rfl, rfl, rfl⟩ := trodAll_nil r1
  obtain rfl : args = #[v0, v1] := by cases args; simp_all
  obtain ⟨rfl, rfl⟩ := trodVars_none hV
  obtain ⟨cs0, rfl, hs0⟩ := okWide_struct Try.underlying44 (hval 0 44 v0 rfl rfl)
  have k0 := h0
  have lt0 : ∀ x ∈ p0, x.block < W.heap.size := by obtain ⟨m, hm⟩ := k0; exact DataW.trod_lt m _ _ _ hm
  obtain ⟨x0, hK0, hw0⟩ := (by obtain ⟨fuel, hf⟩ := h0; exact opens44.go H enc W 0 _ _ fuel _ _ hf : ∃ x, k44.K W x cs0.toList ∧ wf44 x)
  obtain ⟨A0_2, c0_2, A0_3, c0_3, e0, hl0_2, hC0_2, hl0_3, hC0_3⟩ := k44_open hK0
  obtain rfl : cs0 = #[.int .i64 x0.f0, .int .i64 x0.f1, .slice A0_2 x0.f2.f0.length c0_2, .slice A0_3 x0.f2.f1.length c0_3] := by apply Array.ext'; simpa using e0
  obtain ⟨cs1, rfl, hs1⟩ := okWide_struct Try.underlying44 (hval 1 44 v1 rfl rfl)
  have k1 := h1
  have lt1 : ∀ x ∈ p1, x.block < W.heap.size := by obtain ⟨m, hm⟩ := k1; exact DataW.trod_lt m _ _ _ hm
  obtain ⟨x1, hK1, hw1⟩ := (by obtain ⟨fuel, hf⟩ := h1; exact opens44.go H enc W 0 _ _ fuel _ _ hf : ∃ x, k44.K W x cs1.toList ∧ wf44 x)
  obtain ⟨A1_2, c1_2, A1_3, c1_3, e1, hl1_2, hC1_2, hl1_3, hC1_3⟩ := k44_open hK1
  obtain rfl : cs1 = #[.int .i64 x1.f0, .int .i64 x1.f1, .slice A1_2 x1.f2.f0.length c1_2, .slice A1_3 x1.f2.f1.length c1_3] := by apply Array.ext'; simpa using e1
  obtain ⟨k, h⟩ := Pure.FnExactEqualSnapshots x0 x1 hw0 hw1
  refine (A.laws_FnExactEqualSnapshots.calls k x0.f0 x0.f1 _ _ x0.f2.f0 _ _ x0.f2.f1 x1.f0 x1.f1 _ _ x1.f2.f0 _ _ x1.f2.f1 W hC0_2 hl0_2 hC0_3 hl0_3 hC1_2 hl1_2 hC1_3 hl1_3 h).mono fun e W' he => ?_
  obtain ⟨he, bel0⟩ := he
  have bel : Below W.heap.size W W' := bel0
  subst he
  exact ⟨_, rfl, _, _, _, [], _, [], hW', trodAll_mk1 (shut_bool Try.underlying4 _), (trodAll_cons_mk (Below.trod laidOut (by kernel_rfl) (of_decide_eq_true (by kernel_rfl)) k0 bel lt0) (trodAll_cons_mk (Below.trod laidOut (by kernel_rfl) (of_decide_eq_true (by kernel_rfl)) k1 bel lt1) trodAll_mk0)), rfl, bel.frame _, fun h => by cases h⟩
theorem over : Rows.fnExactEqualSnapshotsRow.holds Try.pinned (OpenSpec.ofChange Rows.fnExactEqualSnapshotsSpec) :=
  OpenClaim.holds_of_wide 4 Try.f4 rfl rfl rfl rfl rfl rfl rfl ⟨rfl, rfl, rfl, rfl, rfl⟩ rfl rfl rfl rfl rfl (by kernel_rfl) Try.func4 (by kernel_rfl)
    (of_decide_eq_true (by kernel_rfl)) (by unfold Func.isWrapper; first | (rw [if_pos (by decide +kernel)]; kernel_rfl) | (rw [if_neg (by decide +kernel)]; exact ⟨rfl, rfl⟩))
    (fun os started H enc _ => lifted os started H enc)
theorem proved : Rows.FnExactEqualSnapshotsSaid := over
#print axioms proved
end Go.Proofs.Ytlnkpjjmgkmofaa.fnExactEqualSnapshots
namespace Go.Proofs.Ytlnkpjjmgkmofaa
/-- The row, under a short name, for the claim. -/
theorem fnExactEqualSnapshots_holds : Rows.FnExactEqualSnapshotsSaid := fnExactEqualSnapshots.proved
end Go.Proofs.Ytlnkpjjmgkmofaa
