/-
  No cell of these rows narrows 'for every input' (looked for: loops, veiled, ifaces, maps, wideKeys, modest, calm, conditions, laid).
  DERIVED. THE GIVEN ROWS OF THIS SEAT. 5 by the template 'for every input the law returns true; each argument reads behind the call as it read before'; 0 by the template 'total and deterministic' (their statements: YtcikahnmiiichaaTotals.lean).
  GIVEN WITH THE SEED: the statements are not yours to turn. If you find one false, say at which input.
  Laid BY PROGRAM, IN A SANDBOX (cutbox-rows.mjs): the forced cells as the released guide's own fill.sh prints them over the translation 1bbffe278b92e237… (all of the seat's roots in one cut). By AI agents, Wed Nov 11 2026. No macro, syntax, notation, axiom, sorry.
-/
import Derived.Test.YtcikahnmiiichaaChecked
import GoSem.Claim
import GoSem.ClaimJoined
import GoSem.ClaimMapViews
import Derived.JoinedTies
import Derived.KernelRfl
namespace Go.Proofs.Ytcikahnmiiichaa
/- THE CELL 'sum', in the pinned program and in every row, IS THE sha256 OF THE DUMP (.gsa) THAT YtcikahnmiiichaaProg.lean LOADS. Nothing in Lean hashes anything: it is a label: what it is worth is what the hold of that sum in a sandbox is worth. -/
noncomputable def Try.pinned : Pinned := { name := "ytcikahnmiiichaa", sum := "1bbffe278b92e23779abbfa288598b36c542b71997482d418200385ac268f1e6", checked := Try.checked }
namespace Rows
def none {H : Type} : Left H := { results := [], args := [] }

/-- 'laws.FnExactApplyOp': WHATEVER THE INPUT: true; the input reads as it did. -/
def fnExactApplyOpSpec : ChangeSpec := { name := "fnExactApplyOp", fn := fun _ => fun
  | [d1, d2] => { results := [.lit (.bool true)], args := [d1, d2] }
  | _ => none }
def fnExactApplyOpRow : OpenClaim := { program := "ytcikahnmiiichaa", sum := "1bbffe278b92e23779abbfa288598b36c542b71997482d418200385ac268f1e6", func := "loop.example/g01926/laws.FnExactApplyOp", spec := "fnExactApplyOp", inPlace := ["slices.overlaps[loop.example/g01926/impl.Session]"], unfollowed := true, recurses := true, apart := false }
def FnExactApplyOpSaid : Prop := fnExactApplyOpRow.holds Try.pinned (OpenSpec.ofChange fnExactApplyOpSpec)

/-- ITS FALSE NEIGHBOUR: 'it returns false'. Refute it at one input. -/
def fnExactApplyOpWrong : ChangeSpec := { name := "fnExactApplyOp", fn := fun _ => fun
  | [d1, d2] => { results := [.lit (.bool false)], args := [d1, d2] }
  | _ => none }
def FnExactApplyOpWrongFalsely : Prop := fnExactApplyOpRow.holds Try.pinned (OpenSpec.ofChange fnExactApplyOpWrong)

/-- 'laws.FnMachine': WHATEVER THE INPUT: true; the input reads as it did. -/
def fnMachineSpec : ChangeSpec := { name := "fnMachine", fn := fun _ => fun
  | [d] => { results := [.lit (.bool true)], args := [d] }
  | _ => none }
def fnMachineRow : OpenClaim := { program := "ytcikahnmiiichaa", sum := "1bbffe278b92e23779abbfa288598b36c542b71997482d418200385ac268f1e6", func := "loop.example/g01926/laws.FnMachine", spec := "fnMachine", inPlace := ["slices.overlaps[loop.example/g01926/impl.Session]"], unfollowed := true, recurses := true, apart := false }
def FnMachineSaid : Prop := fnMachineRow.holds Try.pinned (OpenSpec.ofChange fnMachineSpec)

/-- ITS FALSE NEIGHBOUR: 'it returns false'. Refute it at one input. -/
def fnMachineWrong : ChangeSpec := { name := "fnMachine", fn := fun _ => fun
  | [d] => { results := [.lit (.bool false)], args := [d] }
  | _ => none }
def FnMachineWrongFalsely : Prop := fnMachineRow.holds Try.pinned (OpenSpec.ofChange fnMachineWrong)

/-- 'laws.FnExactResultAt': WHATEVER THE INPUT: true; the input reads as it did. -/
def fnExactResultAtSpec : ChangeSpec := { name := "fnExactResultAt", fn := fun _ => fun
  | [d1, d2] => { results := [.lit (.bool true)], args := [d1, d2] }
  | _ => none }
def fnExactResultAtRow : OpenClaim := { program := "ytcikahnmiiichaa", sum := "1bbffe278b92e23779abbfa288598b36c542b71997482d418200385ac268f1e6", func := "loop.example/g01926/laws.FnExactResultAt", spec := "fnExactResultAt", inPlace := ["slices.overlaps[loop.example/g01926/impl.Session]"], unfollowed := true, recurses := true, apart := false }
def FnExactResultAtSaid : Prop := fnExactResultAtRow.holds Try.pinned (OpenSpec.ofChange fnExactResultAtSpec)

/-- ITS FALSE NEIGHBOUR: 'it returns false'. Refute it at one input. -/
def fnExactResultAtWrong : ChangeSpec := { name := "fnExactResultAt", fn := fun _ => fun
  | [d1, d2] => { results := [.lit (.bool false)], args := [d1, d2] }
  | _ => none }
def FnExactResultAtWrongFalsely : Prop := fnExactResultAtRow.holds Try.pinned (OpenSpec.ofChange fnExactResultAtWrong)

/-- 'laws.FnExactReplayLog': WHATEVER THE INPUT: true; the input reads as it did. -/
def fnExactReplayLogSpec : ChangeSpec := { name := "fnExactReplayLog", fn := fun _ => fun
  | [d] => { results := [.lit (.bool true)], args := [d] }
  | _ => none }
def fnExactReplayLogRow : OpenClaim := { program := "ytcikahnmiiichaa", sum := "1bbffe278b92e23779abbfa288598b36c542b71997482d418200385ac268f1e6", func := "loop.example/g01926/laws.FnExactReplayLog", spec := "fnExactReplayLog", inPlace := ["slices.overlaps[loop.example/g01926/impl.Session]"], unfollowed := true, recurses := true, apart := false }
def FnExactReplayLogSaid : Prop := fnExactReplayLogRow.holds Try.pinned (OpenSpec.ofChange fnExactReplayLogSpec)

/-- ITS FALSE NEIGHBOUR: 'it returns false'. Refute it at one input. -/
def fnExactReplayLogWrong : ChangeSpec := { name := "fnExactReplayLog", fn := fun _ => fun
  | [d] => { results := [.lit (.bool false)], args := [d] }
  | _ => none }
def FnExactReplayLogWrongFalsely : Prop := fnExactReplayLogRow.holds Try.pinned (OpenSpec.ofChange fnExactReplayLogWrong)

/-- 'laws.FnLogs': WHATEVER THE INPUT: true; the input reads as it did. -/
def fnLogsSpec : ChangeSpec := { name := "fnLogs", fn := fun _ => fun
  | [d] => { results := [.lit (.bool true)], args := [d] }
  | _ => none }
def fnLogsRow : OpenClaim := { program := "ytcikahnmiiichaa", sum := "1bbffe278b92e23779abbfa288598b36c542b71997482d418200385ac268f1e6", func := "loop.example/g01926/laws.FnLogs", spec := "fnLogs", inPlace := ["slices.overlaps[loop.example/g01926/impl.Session]"], unfollowed := true, recurses := true, apart := false }
def FnLogsSaid : Prop := fnLogsRow.holds Try.pinned (OpenSpec.ofChange fnLogsSpec)

/-- ITS FALSE NEIGHBOUR: 'it returns false'. Refute it at one input. -/
def fnLogsWrong : ChangeSpec := { name := "fnLogs", fn := fun _ => fun
  | [d] => { results := [.lit (.bool false)], args := [d] }
  | _ => none }
def FnLogsWrongFalsely : Prop := fnLogsRow.holds Try.pinned (OpenSpec.ofChange fnLogsWrong)

/- THE SECOND FORM. 'bulk': how many values and letters a reading holds, each counted each time it is reached (what is shared counts as often as it is met; a slice's spare places count too). A statement '..UptoSaid' is the law's where the arguments, and the package variables that the reading takes, are together of bulk at most 1048576: NARROWER than '..Said'. Prove '..Said' where nothing that the law and all that it calls make is longer than what came in: it says more and counts as full. Else prove '..UptoSaid'. A law counts once. -/
mutual
def uptoBulk {H : Type} : DataW H → Nat
  | .lit (.string bytes) => bytes.length + 1
  | .lit _ => 1
  | .nil => 1
  | .ptr d => uptoBulk d + 1
  | .slice elems spare => uptoBulkAll elems + uptoBulkAll spare + 1
  | .agg parts => uptoBulkAll parts + 1
  | .iface _ d => uptoBulk d + 1
  | .map entries => uptoBulkEntries entries + 1
  | .held _ => 1
def uptoBulkAll {H : Type} : List (DataW H) → Nat
  | [] => 0
  | d :: r => uptoBulk d + uptoBulkAll r
def uptoBulkEntries {H : Type} : List (Lit × DataW H) → Nat
  | [] => 0
  | x :: r => uptoBulkEntry x + uptoBulkEntries r
def uptoBulkEntry {H : Type} : Lit × DataW H → Nat
  | (.string bytes, d) => bytes.length + uptoBulk d + 1
  | (_, d) => uptoBulk d + 1
 end
def uptoSmall : (H : Type) → List (DataW H) → Bool := fun _ ds => decide (uptoBulkAll ds ≤ 1048576)
def OpenSpec.upto (s : _root_.Go.ChangeSpec) : _root_.Go.OpenSpec := { _root_.Go.OpenSpec.ofChange s with cond := some uptoSmall }

/-- 'laws.FnExactApplyOp', WHERE WHAT IT READS IS OF BULK AT MOST 1048576: true; the input reads as it did. -/
def fnExactApplyOpUptoRow : OpenClaim := { program := "ytcikahnmiiichaa", sum := "1bbffe278b92e23779abbfa288598b36c542b71997482d418200385ac268f1e6", func := "loop.example/g01926/laws.FnExactApplyOp", spec := "fnExactApplyOp", inPlace := ["slices.overlaps[loop.example/g01926/impl.Session]"], unfollowed := true, recurses := true, apart := false, narrowed := true }
def FnExactApplyOpUptoSaid : Prop := fnExactApplyOpUptoRow.holds Try.pinned (OpenSpec.upto fnExactApplyOpSpec)

/-- 'laws.FnMachine', WHERE WHAT IT READS IS OF BULK AT MOST 1048576: true; the input reads as it did. -/
def fnMachineUptoRow : OpenClaim := { program := "ytcikahnmiiichaa", sum := "1bbffe278b92e23779abbfa288598b36c542b71997482d418200385ac268f1e6", func := "loop.example/g01926/laws.FnMachine", spec := "fnMachine", inPlace := ["slices.overlaps[loop.example/g01926/impl.Session]"], unfollowed := true, recurses := true, apart := false, narrowed := true }
def FnMachineUptoSaid : Prop := fnMachineUptoRow.holds Try.pinned (OpenSpec.upto fnMachineSpec)

/-- 'laws.FnExactResultAt', WHERE WHAT IT READS IS OF BULK AT MOST 1048576: true; the input reads as it did. -/
def fnExactResultAtUptoRow : OpenClaim := { program := "ytcikahnmiiichaa", sum := "1bbffe278b92e23779abbfa288598b36c542b71997482d418200385ac268f1e6", func := "loop.example/g01926/laws.FnExactResultAt", spec := "fnExactResultAt", inPlace := ["slices.overlaps[loop.example/g01926/impl.Session]"], unfollowed := true, recurses := true, apart := false, narrowed := true }
def FnExactResultAtUptoSaid : Prop := fnExactResultAtUptoRow.holds Try.pinned (OpenSpec.upto fnExactResultAtSpec)

/-- 'laws.FnExactReplayLog', WHERE WHAT IT READS IS OF BULK AT MOST 1048576: true; the input reads as it did. -/
def fnExactReplayLogUptoRow : OpenClaim := { program := "ytcikahnmiiichaa", sum := "1bbffe278b92e23779abbfa288598b36c542b71997482d418200385ac268f1e6", func := "loop.example/g01926/laws.FnExactReplayLog", spec := "fnExactReplayLog", inPlace := ["slices.overlaps[loop.example/g01926/impl.Session]"], unfollowed := true, recurses := true, apart := false, narrowed := true }
def FnExactReplayLogUptoSaid : Prop := fnExactReplayLogUptoRow.holds Try.pinned (OpenSpec.upto fnExactReplayLogSpec)

/-- 'laws.FnLogs', WHERE WHAT IT READS IS OF BULK AT MOST 1048576: true; the input reads as it did. -/
def fnLogsUptoRow : OpenClaim := { program := "ytcikahnmiiichaa", sum := "1bbffe278b92e23779abbfa288598b36c542b71997482d418200385ac268f1e6", func := "loop.example/g01926/laws.FnLogs", spec := "fnLogs", inPlace := ["slices.overlaps[loop.example/g01926/impl.Session]"], unfollowed := true, recurses := true, apart := false, narrowed := true }
def FnLogsUptoSaid : Prop := fnLogsUptoRow.holds Try.pinned (OpenSpec.upto fnLogsSpec)

end Rows
end Go.Proofs.Ytcikahnmiiichaa
