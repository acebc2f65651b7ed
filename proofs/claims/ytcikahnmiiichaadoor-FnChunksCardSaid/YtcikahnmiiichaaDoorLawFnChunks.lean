/- The row of the law FnChunks, out of its pure statement and the walk; no conditions. -/
import Derived.Test.YtcikahnmiiichaaDoorCards
import Derived.Test.YtcikahnmiiichaaDoorTie
import Derived.Test.YtcikahnmiiichaaDoorGiven
import Derived.LaidMore
import Derived.Stop.Joined
import Derived.SevenTiedAt
import Derived.Test.YtcikahnmiiichaaDoorRows
import Derived.Test.YtcikahnmiiichaaDoorQFnChunks
import Derived.Test.YtcikahnmiiichaaDoorPureFnChunks
import Derived.WalkKit
import Derived.ProofKit
import Derived.OpenShut
import Derived.ShutString
import Derived.ChangeOld
import Derived.Below
import Derived.SizedLaws
import Derived.Test.YtcikahnmiiichaaDoorWSized
namespace Go.Proofs.YtcikahnmiiichaaDoor.fnChunks
open Go.ChangeShapes Go.WideShapes Go.ChangeAt Go.RowKit
open Go.ChangeMaps (open_string shut_string)
open Go.Proofs.YtcikahnmiiichaaDoor.K Go.Proofs.YtcikahnmiiichaaDoorW.PrintWords
open Go.Proofs.YtcikahnmiiichaaDoor.Opens
set_option linter.unusedVariables false
set_option linter.unusedSimpArgs false
theorem own : ownKnob Tryd.prog.godebug = none := by kernel_rfl
theorem laidOut : laidOutB Tryd.prog = true := by kernel_rfl
open Go.Proofs.YtcikahnmiiichaaDoor.Given
abbrev laidX : List (String × DataW Unit) := Rows.fnChunksRow.laid
theorem door_met (os : Os) (args : Array Value) : laidMetH Tryd.prog laidX ((World.doorLaid Tryd.prog 2000 os).forCall (fun _ _ => 0) ⟨#[], args, []⟩).memory :=
  laidMetH_of_parts3 (fuel := 8) (laidMet_of_run' 8 (by kernel_rfl) (by kernel_rfl)) (by kernel_rfl) (by kernel_rfl)
set_option maxRecDepth 100000 in
theorem lifted (os : Os) (started : os.Started) (H : Type) (enc : TypeId × Value → H) :
    ReturnsInHanded {} Tryd.checked os 4 .any (fun w args => (Rows.fnChunksSpec.pre enc Tryd.prog Tryd.f4 Rows.fnChunksRow.domain false w args ∧ laidMetH Tryd.prog laidX w) ∧ sizedMet enc Tryd.prog Tryd.f4 (OpenSpec.ofChange Rows.fnChunksSpec) false w args) (Rows.fnChunksSpec.post enc Tryd.prog Tryd.f4 false true false false) := by
  refine returnsInHanded_of_change_and (C := Tryd.checked) (X := fun w _ => laidMetH Tryd.prog laidX w) (fun _ _ _ hh h => h.of_heap hh) own started (by kernel_rfl) Tryd.func4
    (ChangeSpec.witness_shaped (enc := enc) (C := Tryd.checked) (os := os) (X := fun w _ => laidMetH Tryd.prog laidX w) false (World.doorLaid Tryd.prog 2000 os) #[.slice none 0 0] 8 rfl (World.shaped_of_RefB (by kernel_rfl) (by kernel_rfl)) (by kernel_rfl) (by kernel_rfl) (by kernel_rfl) (door_met os _)) ?_
  intro W base args ds gs before hval0 hW hcnd hsz0 hL _
  have hWF : WF W := wf_of_laid (show laidMet Tryd.prog laidX W from hL) (by first | exact .head _ | exact .tail _ (.head _) | exact .tail _ (.tail _ (.head _)))
  have hsz : (DataW.weightsEach Tryd.prog (Tryd.f4.params.toList ++ Rows.fnChunksSpec.plain.varTypes Tryd.prog) (ds ++ gs)).all (· ≤ reachBytes) = true := hsz0
  have hval : ∀ (j : Nat) t v, Tryd.f4.params[j]? = some t → args[j]? = some v → Value.okWide Tryd.prog W .any base t v := hval0
  have hW' := hW
  obtain ⟨p, q, hA0, hV, rfl, hfz, hnd⟩ := hW
  have hA : DataW.TrodAll enc Tryd.prog W 0 (fun _ => true) true Tryd.f4.params.toList args.toList ds p := hA0
  rw [Tryd.params4] at hA hval hsz
  obtain ⟨v0, vs0, d0, ds0, p0, q0, hargs, rfl, rfl, h0, r0⟩ := trodAll_cons hA
  obtain ⟨rfl, rfl, rfl⟩ := trodAll_nil r0
  obtain rfl : args = #[v0] := by cases args; simp_all
  obtain ⟨rfl, rfl⟩ := trodVars_none hV
  obtain ⟨a0, len0, cap0, rfl⟩ := okWide_slice Tryd.underlying22 (hval 0 22 v0 rfl rfl)
  have k0 := h0
  have lt0 : ∀ x ∈ p0, x.block < W.heap.size := by obtain ⟨m, hm⟩ := k0; exact DataW.trod_lt m _ _ _ hm
  have y0 : len0 * 1 ≤ 140737488351232 := sized_ints hsz (j := 0) (t := 22) rfl rfl Tryd.underlying22 Tryd.underlying5 (by kernel_rfl) (by kernel_rfl) h0
  have o0 : Opens Tryd.prog 22 (Kd.slice 5 (Kd.int .u8)) (fun a : List Int => (a.length ≤ maxLen ∧ ∀ za ∈ a, (Lit.int .u8 za).wf = true)) := (opens_slice Tryd.underlying22 (by kernel_rfl) (opens_int Tryd.underlying5))
  obtain ⟨l0, ⟨A0, c0, e0, hl0, hC0⟩, hw0⟩ := (by obtain ⟨fuel, hf⟩ := h0; exact o0.go H enc W 0 _ _ fuel _ _ hf : ∃ l, (Kd.slice 5 (Kd.int .u8)).K W l [Value.slice a0 len0 cap0] ∧ (fun a : List Int => (a.length ≤ maxLen ∧ ∀ za ∈ a, (Lit.int .u8 za).wf = true)) l)
  simp only [List.cons.injEq, Value.slice.injEq, and_true] at e0
  obtain ⟨rfl, rfl, rfl⟩ := e0
  obtain ⟨k, h⟩ := Pure.FnChunks l0 hw0.1 y0 hw0.2
  refine (K.laws_FnChunks.calls k _ _ l0 W hC0 hl0 hWF h).mono fun e W' he => ?_
  obtain ⟨he, bel0⟩ := he
  have bel : Below W.heap.size W W' := bel0
  subst he
  exact ⟨_, rfl, _, _, _, [], _, [], hW', trodAll_mk1 (shut_bool Tryd.underlying4 _), (trodAll_cons_mk (Below.trod laidOut (by kernel_rfl) (of_decide_eq_true (by kernel_rfl)) k0 bel lt0) trodAll_mk0), rfl, bel.frame _, fun h => by cases h⟩
theorem over : Rows.fnChunksRow.holds Tryd.pinned (OpenSpec.ofChange Rows.fnChunksSpec) :=
  OpenClaim.holds_of_wide 4 Tryd.f4 rfl rfl rfl rfl rfl rfl rfl ⟨rfl, rfl, rfl, rfl, rfl⟩ rfl rfl rfl rfl rfl (by kernel_rfl) Tryd.func4 (by kernel_rfl)
    (of_decide_eq_true (by kernel_rfl)) (by unfold Func.isWrapper; first | (rw [if_pos (by decide +kernel)]; kernel_rfl) | (rw [if_neg (by decide +kernel)]; exact ⟨rfl, rfl⟩))
    (fun os started H enc _ => lifted os started H enc)
theorem proved : Rows.FnChunksCardSaid :=
  Claim7.holds_tied_plain_at .later [] [.data, .data, .data] true (true, "bfdf754554bb4da02fdd91082a384919353b83ae6e3dd82cc900a9e1f3372c5e") false over (fun _ h => by cases h) (by kernel_rfl) (fun _ h => by cases h) fnChunks_row_tie rfl ⟨rfl, rfl⟩ (by kernel_rfl) rfl
    (fun f fn hf hfn => by
      obtain rfl : f = 4 := (Option.some.inj ((show Tryd.prog.funcNamed "loop.example/g01926/laws.FnChunks" = some 4 by kernel_rfl).symm.trans hf)).symm
      obtain rfl : fn = Tryd.f4 := (Option.some.inj (Tryd.func4.symm.trans hfn)).symm
      refine ⟨by kernel_rfl, fun j t ht => ?_⟩
      have ht' : Tryd.f4.params[j]? = some t := ht
      rw [Tryd.params4] at ht'
      rcases j with _ | j
      · obtain rfl : t = 22 := by simpa using ht'.symm
        exact (show Tryd.prog.wantsStandIn 22 = false by kernel_rfl)
      simp at ht')
    (by kernel_rfl)
#print axioms proved
end Go.Proofs.YtcikahnmiiichaaDoor.fnChunks
namespace Go.Proofs.YtcikahnmiiichaaDoor
/-- The row, under a short name, for the claim. -/
theorem fnChunks_holds : Rows.FnChunksCardSaid := fnChunks.proved
end Go.Proofs.YtcikahnmiiichaaDoor
