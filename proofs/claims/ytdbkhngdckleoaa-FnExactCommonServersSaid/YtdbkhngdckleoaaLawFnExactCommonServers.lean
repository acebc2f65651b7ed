/- The row of the law FnExactCommonServers, out of its pure statement and the walk; no conditions. -/
import Derived.Test.YtdbkhngdckleoaaRows
import Derived.Test.YtdbkhngdckleoaaQFnExactCommonServers
import Derived.Test.YtdbkhngdckleoaaPureFnExactCommonServers
import Derived.WalkKit
import Derived.ProofKit
import Derived.OpenShut
import Derived.ShutString
import Derived.ChangeOld
import Derived.Below
import Derived.SizedLaws
import Derived.Test.YtdbkhngdckleoaaWSized
namespace Go.Proofs.Ytdbkhngdckleoaa.fnExactCommonServers
open Go.ChangeShapes Go.WideShapes Go.ChangeAt Go.RowKit
open Go.ChangeMaps (open_string shut_string)
open Go.Proofs.Ytdbkhngdckleoaa.C Go.Proofs.YtdbkhngdckleoaaW.PrintWords
open Go.Proofs.Ytdbkhngdckleoaa.Opens
set_option linter.unusedVariables false
set_option linter.unusedSimpArgs false
theorem own : ownKnob Try.prog.godebug = none := by kernel_rfl
theorem laidOut : laidOutB Try.prog = true := by kernel_rfl
set_option maxRecDepth 100000 in
theorem lifted (os : Os) (started : os.Started) (H : Type) (enc : TypeId × Value → H) :
    ReturnsInHanded {} Try.checked os 7 .any (Rows.fnExactCommonServersSpec.pre6 enc Try.prog Try.f7 Rows.fnExactCommonServersRow.domain false) (Rows.fnExactCommonServersSpec.post enc Try.prog Try.f7 false true false false) := by
  refine returnsInHanded_of_change_sized (C := Try.checked) own started (by kernel_rfl) Try.func7
    (ChangeSpec.witness6 (enc := enc) (C := Try.checked) false ⟨#[], #[.slice none 0 0, .slice none 0 0], []⟩ 8 (by kernel_rfl) (by kernel_rfl) (by kernel_rfl) (by kernel_rfl)) ?_
  intro W base args ds gs before hval0 hW hcnd hsz0 _
  have hsz : (DataW.weightsEach Try.prog (Try.f7.params.toList ++ Rows.fnExactCommonServersSpec.plain.varTypes Try.prog) (ds ++ gs)).all (· ≤ reachBytes) = true := hsz0
  have hval : ∀ (j : Nat) t v, Try.f7.params[j]? = some t → args[j]? = some v → Value.okWide Try.prog W .any base t v := hval0
  have hW' := hW
  obtain ⟨p, q, hA0, hV, rfl, hfz, hnd⟩ := hW
  have hA : DataW.TrodAll enc Try.prog W 0 (fun _ => true) true Try.f7.params.toList args.toList ds p := hA0
  rw [Try.params7] at hA hval hsz
  obtain ⟨v0, vs0, d0, ds0, p0, q0, hargs, rfl, rfl, h0, r0⟩ := trodAll_cons hA
  obtain ⟨v1, vs1, d1, ds1, p1, q1, rfl, rfl, rfl, h1, r1⟩ := trodAll_cons r0
  obtain ⟨rfl, rfl, rfl⟩ := trodAll_nil r1
  obtain rfl : args = #[v0, v1] := by cases args; simp_all
  obtain ⟨rfl, rfl⟩ := trodVars_none hV
  obtain ⟨a0, len0, cap0, rfl⟩ := okWide_slice Try.underlying41 (hval 0 41 v0 rfl rfl)
  have k0 := h0
  have lt0 : ∀ x ∈ p0, x.block < W.heap.size := by obtain ⟨m, hm⟩ := k0; exact DataW.trod_lt m _ _ _ hm
  have y0 : len0 * 8 ≤ 140737488351232 := sized_ints hsz (j := 0) (t := 41) rfl rfl Try.underlying41 Try.underlying3 (by kernel_rfl) (by kernel_rfl) h0
  have o0 : Opens Try.prog 41 (Kd.slice 3 (Kd.int .i64)) (fun a : List Int => (a.length ≤ maxLen ∧ ∀ za ∈ a, (Lit.int .i64 za).wf = true)) := (opens_slice Try.underlying41 (by kernel_rfl) (opens_int Try.underlying3))
  obtain ⟨l0, ⟨A0, c0, e0, hl0, hC0⟩, hw0⟩ := (by obtain ⟨fuel, hf⟩ := h0; exact o0.go H enc W 0 _ _ fuel _ _ hf : ∃ l, (Kd.slice 3 (Kd.int .i64)).K W l [Value.slice a0 len0 cap0] ∧ (fun a : List Int => (a.length ≤ maxLen ∧ ∀ za ∈ a, (Lit.int .i64 za).wf = true)) l)
  simp only [List.cons.injEq, Value.slice.injEq, and_true] at e0
  obtain ⟨rfl, rfl, rfl⟩ := e0
  obtain ⟨a1, len1, cap1, rfl⟩ := okWide_slice Try.underlying41 (hval 1 41 v1 rfl rfl)
  have k1 := h1
  have lt1 : ∀ x ∈ p1, x.block < W.heap.size := by obtain ⟨m, hm⟩ := k1; exact DataW.trod_lt m _ _ _ hm
  have y1 : len1 * 8 ≤ 140737488351232 := sized_ints hsz (j := 1) (t := 41) rfl rfl Try.underlying41 Try.underlying3 (by kernel_rfl) (by kernel_rfl) h1
  have o1 : Opens Try.prog 41 (Kd.slice 3 (Kd.int .i64)) (fun a : List Int => (a.length ≤ maxLen ∧ ∀ za ∈ a, (Lit.int .i64 za).wf = true)) := (opens_slice Try.underlying41 (by kernel_rfl) (opens_int Try.underlying3))
  obtain ⟨l1, ⟨A1, c1, e1, hl1, hC1⟩, hw1⟩ := (by obtain ⟨fuel, hf⟩ := h1; exact o1.go H enc W 0 _ _ fuel _ _ hf : ∃ l, (Kd.slice 3 (Kd.int .i64)).K W l [Value.slice a1 len1 cap1] ∧ (fun a : List Int => (a.length ≤ maxLen ∧ ∀ za ∈ a, (Lit.int .i64 za).wf = true)) l)
  simp only [List.cons.injEq, Value.slice.injEq, and_true] at e1
  obtain ⟨rfl, rfl, rfl⟩ := e1
  obtain ⟨k, h⟩ := Pure.FnExactCommonServers l0 l1 hw0.1 y0 hw0.2 hw1.1 y1 hw1.2
  refine (C.laws_FnExactCommonServers.calls k _ _ l0 _ _ l1 W hC0 hl0 hC1 hl1 h).mono fun e W' he => ?_
  obtain ⟨he, bel0⟩ := he
  have bel : Below W.heap.size W W' := bel0
  subst he
  exact ⟨_, rfl, _, _, _, [], _, [], hW', trodAll_mk1 (shut_bool Try.underlying4 _), (trodAll_cons_mk (Below.trod laidOut (by kernel_rfl) (of_decide_eq_true (by kernel_rfl)) k0 bel lt0) (trodAll_cons_mk (Below.trod laidOut (by kernel_rfl) (of_decide_eq_true (by kernel_rfl)) k1 bel lt1) trodAll_mk0)), rfl, bel.frame _, fun h => by cases h⟩
theorem over : Rows.fnExactCommonServersRow.holds Try.pinned (OpenSpec.ofChange Rows.fnExactCommonServersSpec) :=
  OpenClaim.holds_of_wide 7 Try.f7 rfl rfl rfl rfl rfl rfl rfl ⟨rfl, rfl, rfl, rfl, rfl⟩ rfl rfl rfl rfl rfl (by kernel_rfl) Try.func7 (by kernel_rfl)
    (of_decide_eq_true (by kernel_rfl)) (by unfold Func.isWrapper; first | (rw [if_pos (by decide +kernel)]; kernel_rfl) | (rw [if_neg (by decide +kernel)]; exact ⟨rfl, rfl⟩))
    (fun os started H enc _ => lifted os started H enc)
theorem proved : Rows.FnExactCommonServersSaid := over
#print axioms proved
end Go.Proofs.Ytdbkhngdckleoaa.fnExactCommonServers
namespace Go.Proofs.Ytdbkhngdckleoaa
/-- The row, under a short name, for the claim. -/
theorem fnExactCommonServers_holds : Rows.FnExactCommonServersSaid := fnExactCommonServers.proved
end Go.Proofs.Ytdbkhngdckleoaa
