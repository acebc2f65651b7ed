/- The row of the law FnExactProvesPrefix, out of its pure statement and the walk; no conditions. -/
import Derived.Test.YtkkbcnghlnogpaaDoorCards
import Derived.Test.YtkkbcnghlnogpaaDoorTie
import Derived.Test.YtkkbcnghlnogpaaDoorGiven
import Derived.LaidMore
import Derived.Stop.Joined
import Derived.SevenTiedAt
import Derived.Test.YtkkbcnghlnogpaaDoorRows
import Derived.Test.YtkkbcnghlnogpaaDoorQFnExactProvesPrefix
import Derived.Test.YtkkbcnghlnogpaaDoorPureFnExactProvesPrefix
import Derived.WalkKit
import Derived.ProofKit
import Derived.OpenShut
import Derived.ShutString
import Derived.ChangeOld
import Derived.Below
import Derived.SizedLaws
import Derived.Test.YtkkbcnghlnogpaaDoorWSized
namespace Go.Proofs.YtkkbcnghlnogpaaDoor.fnExactProvesPrefix
open Go.ChangeShapes Go.WideShapes Go.ChangeAt Go.RowKit
open Go.ChangeMaps (open_string shut_string)
open Go.Proofs.YtkkbcnghlnogpaaDoor.D Go.Proofs.YtkkbcnghlnogpaaDoorW.PrintWords
open Go.Proofs.YtkkbcnghlnogpaaDoor.Opens
set_option linter.unusedVariables false
set_option linter.unusedSimpArgs false
theorem own : ownKnob Tryd.prog.godebug = none := by kernel_rfl
theorem laidOut : laidOutB Tryd.prog = true := by kernel_rfl
open Go.Proofs.YtkkbcnghlnogpaaDoor.Given
abbrev laidX : List (String × DataW Unit) := Rows.fnExactProvesPrefixRow.laid
theorem door_met (os : Os) (args : Array Value) : laidMetH Tryd.prog laidX ((World.doorLaid Tryd.prog 2000 os).forCall (fun _ _ => 0) ⟨#[], args, []⟩).memory :=
  laidMetH_of_parts3 (fuel := 8) (laidMet_of_run' 8 (by kernel_rfl) (by kernel_rfl)) (by kernel_rfl) (by kernel_rfl)
set_option maxRecDepth 100000 in
theorem lifted (os : Os) (started : os.Started) (H : Type) (enc : TypeId × Value → H) :
    ReturnsInHanded {} Tryd.checked os 7 .any (fun w args => (Rows.fnExactProvesPrefixSpec.pre enc Tryd.prog Tryd.f7 Rows.fnExactProvesPrefixRow.domain false w args ∧ laidMetH Tryd.prog laidX w) ∧ sizedMet enc Tryd.prog Tryd.f7 (OpenSpec.ofChange Rows.fnExactProvesPrefixSpec) false w args) (Rows.fnExactProvesPrefixSpec.post enc Tryd.prog Tryd.f7 false true false false) := by
  refine returnsInHanded_of_change_and (C := Tryd.checked) (X := fun w _ => laidMetH Tryd.prog laidX w) (fun _ _ _ hh h => h.of_heap hh) own started (by kernel_rfl) Tryd.func7
    (ChangeSpec.witness_shaped (enc := enc) (C := Tryd.checked) (os := os) (X := fun w _ => laidMetH Tryd.prog laidX w) false (World.doorLaid Tryd.prog 2000 os) #[.slice none 0 0, .int .i64 0, .int .i64 0] 8 rfl (World.shaped_of_RefB (by kernel_rfl) (by kernel_rfl)) (by kernel_rfl) (by kernel_rfl) (by kernel_rfl) (door_met os _)) ?_
  intro W base args ds gs before hval0 hW hcnd hsz0 hL _
  have hWF : WF W := wf_of_laid (show laidMet Tryd.prog laidX W from hL) (by first | exact .head _ | exact .tail _ (.head _) | exact .tail _ (.tail _ (.head _)))
  have hsz : (DataW.weightsEach Tryd.prog (Tryd.f7.params.toList ++ Rows.fnExactProvesPrefixSpec.plain.varTypes Tryd.prog) (ds ++ gs)).all (· ≤ reachBytes) = true := hsz0
  have hval : ∀ (j : Nat) t v, Tryd.f7.params[j]? = some t → args[j]? = some v → Value.okWide Tryd.prog W .any base t v := hval0
  have hW' := hW
  obtain ⟨p, q, hA0, hV, rfl, hfz, hnd⟩ := hW
  have hA : DataW.TrodAll enc Tryd.prog W 0 (fun _ => true) true Tryd.f7.params.toList args.toList ds p := hA0
  rw [Tryd.params7] at hA hval hsz
  obtain ⟨v0, vs0, d0, ds0, p0, q0, hargs, rfl, rfl, h0, r0⟩ := trodAll_cons hA
  obtain ⟨v1, vs1, d1, ds1, p1, q1, rfl, rfl, rfl, h1, r1⟩ := trodAll_cons r0
  obtain ⟨v2, vs2, d2, ds2, p2, q2, rfl, rfl, rfl, h2, r2⟩ := trodAll_cons r1
  obtain ⟨rfl, rfl, rfl⟩ := trodAll_nil r2
  obtain rfl : args = #[v0, v1, v2] := by cases args; simp_all
  obtain ⟨rfl, rfl⟩ := trodVars_none hV
  obtain ⟨a0, len0, cap0, rfl⟩ := okWide_slice Tryd.underlying37 (hval 0 37 v0 rfl rfl)
  have k0 := h0
  have lt0 : ∀ x ∈ p0, x.block < W.heap.size := by obtain ⟨m, hm⟩ := k0; exact DataW.trod_lt m _ _ _ hm
  have o0 : Opens Tryd.prog 37 (Kd.slice 82 k82) (fun a : List (S82) => (a.length ≤ maxLen ∧ ∀ za ∈ a, wf82 za)) := (opens_slice Tryd.underlying37 (by kernel_rfl) opens82)
  obtain ⟨l0, ⟨A0, c0, e0, hl0, hC0⟩, hw0⟩ := (by obtain ⟨fuel, hf⟩ := h0; exact o0.go H enc W 0 _ _ fuel _ _ hf : ∃ l, (Kd.slice 82 k82).K W l [Value.slice a0 len0 cap0] ∧ (fun a : List (S82) => (a.length ≤ maxLen ∧ ∀ za ∈ a, wf82 za)) l)
  simp only [List.cons.injEq, Value.slice.injEq, and_true] at e0
  obtain ⟨rfl, rfl, rfl⟩ := e0
  obtain ⟨a1, rfl, rfl, rfl, w1⟩ := open_int Tryd.underlying3 (hval 1 3 v1 rfl rfl) h1
  obtain ⟨a2, rfl, rfl, rfl, w2⟩ := open_int Tryd.underlying3 (hval 2 3 v2 rfl rfl) h2
  obtain ⟨k, h⟩ := Pure.FnExactProvesPrefix l0 a1 a2 hw0 w1 w2
  refine (D.laws_FnExactProvesPrefix.calls k _ _ l0 a1 a2 W hC0 hl0 hWF h).mono fun e W' he => ?_
  obtain ⟨he, bel0⟩ := he
  have bel : Below W.heap.size W W' := bel0
  subst he
  exact ⟨_, rfl, _, _, _, [], _, [], hW', trodAll_mk1 (shut_bool Tryd.underlying4 _), (trodAll_cons_mk (Below.trod laidOut (by kernel_rfl) (of_decide_eq_true (by kernel_rfl)) k0 bel lt0) (trodAll_cons_mk (shut_int Tryd.underlying3 w1) (trodAll_cons_mk (shut_int Tryd.underlying3 w2) trodAll_mk0))), rfl, bel.frame _, fun h => by cases h⟩
theorem over : Rows.fnExactProvesPrefixRow.holds Tryd.pinned (OpenSpec.ofChange Rows.fnExactProvesPrefixSpec) :=
  OpenClaim.holds_of_wide 7 Tryd.f7 rfl rfl rfl rfl rfl rfl rfl ⟨rfl, rfl, rfl, rfl, rfl⟩ rfl rfl rfl rfl rfl (by kernel_rfl) Tryd.func7 (by kernel_rfl)
    (of_decide_eq_true (by kernel_rfl)) (by unfold Func.isWrapper; first | (rw [if_pos (by decide +kernel)]; kernel_rfl) | (rw [if_neg (by decide +kernel)]; exact ⟨rfl, rfl⟩))
    (fun os started H enc _ => lifted os started H enc)
theorem proved : Rows.FnExactProvesPrefixCardSaid :=
  Claim7.holds_tied_plain_at .later [] [.data, .data, .data] true (true, "d9f5c10826611598d302782779e7738221be45a136b7b880a400823a9a91d686") false over (fun _ h => by cases h) (by kernel_rfl) (fun _ h => by cases h) fnExactProvesPrefix_row_tie rfl ⟨rfl, rfl⟩ (by kernel_rfl) rfl
    (fun f fn hf hfn => by
      obtain rfl : f = 7 := (Option.some.inj ((show Tryd.prog.funcNamed "loop.example/g01926/laws.FnExactProvesPrefix" = some 7 by kernel_rfl).symm.trans hf)).symm
      obtain rfl : fn = Tryd.f7 := (Option.some.inj (Tryd.func7.symm.trans hfn)).symm
      refine ⟨by kernel_rfl, fun j t ht => ?_⟩
      have ht' : Tryd.f7.params[j]? = some t := ht
      rw [Tryd.params7] at ht'
      rcases j with _ | j
      · obtain rfl : t = 37 := by simpa using ht'.symm
        exact (show Tryd.prog.wantsStandIn 37 = false by kernel_rfl)
      rcases j with _ | j
      · obtain rfl : t = 3 := by simpa using ht'.symm
        exact (show Tryd.prog.wantsStandIn 3 = false by kernel_rfl)
      rcases j with _ | j
      · obtain rfl : t = 3 := by simpa using ht'.symm
        exact (show Tryd.prog.wantsStandIn 3 = false by kernel_rfl)
      simp at ht')
    (by kernel_rfl)
#print axioms proved
end Go.Proofs.YtkkbcnghlnogpaaDoor.fnExactProvesPrefix
namespace Go.Proofs.YtkkbcnghlnogpaaDoor
/-- The row, under a short name, for the claim. -/
theorem fnExactProvesPrefix_holds : Rows.FnExactProvesPrefixCardSaid := fnExactProvesPrefix.proved
end Go.Proofs.YtkkbcnghlnogpaaDoor
