/-
  No cell of these rows narrows 'for every input' (looked for: loops, veiled, ifaces, maps, wideKeys, modest, calm, conditions, laid).
  DERIVED. THE GIVEN ROWS OF THIS SEAT. 12 by the template 'for every input the law returns true; each argument reads behind the call as it read before'; 0 by the template 'total and deterministic' (their statements: YtgannaafabhopaaTotals.lean).
  GIVEN WITH THE SEED: the statements are not yours to turn. If you find one false, say at which input.
  Laid BY PROGRAM, IN A SANDBOX (cutbox-rows.mjs): the forced cells as the released guide's own fill.sh prints them over the translation 3bdfd6233c03123c… (all of the seat's roots in one cut). By AI agents, Wed Nov 11 2026. No macro, syntax, notation, axiom, sorry.
-/
import Derived.Test.YtgannaafabhopaaChecked
import GoSem.Claim
import GoSem.ClaimJoined
import GoSem.ClaimMapViews
import Derived.JoinedTies
import Derived.KernelRfl
namespace Go.Proofs.Ytgannaafabhopaa
/- THE CELL 'sum', in the pinned program and in every row, IS THE sha256 OF THE DUMP (.gsa) THAT YtgannaafabhopaaProg.lean LOADS. Nothing in Lean hashes anything: it is a label: what it is worth is what the hold of that sum in a sandbox is worth. -/
noncomputable def Try.pinned : Pinned := { name := "ytgannaafabhopaa", sum := "3bdfd6233c03123c53aef5d20b8ac4ba5f146cabf71207d181b8f8282d0dea67", checked := Try.checked }
namespace Rows
def none {H : Type} : Left H := { results := [], args := [] }

/-- 'laws.FnExactEqualServers': WHATEVER THE INPUT: true; the input reads as it did. -/
def fnExactEqualServersSpec : ChangeSpec := { name := "fnExactEqualServers", fn := fun _ => fun
  | [d1, d2] => { results := [.lit (.bool true)], args := [d1, d2] }
  | _ => none }
def fnExactEqualServersRow : OpenClaim := { program := "ytgannaafabhopaa", sum := "3bdfd6233c03123c53aef5d20b8ac4ba5f146cabf71207d181b8f8282d0dea67", func := "loop.example/g01926/laws.FnExactEqualServers", spec := "fnExactEqualServers", apart := false }
def FnExactEqualServersSaid : Prop := fnExactEqualServersRow.holds Try.pinned (OpenSpec.ofChange fnExactEqualServersSpec)

/-- ITS FALSE NEIGHBOUR: 'it returns false'. Refute it at one input. -/
def fnExactEqualServersWrong : ChangeSpec := { name := "fnExactEqualServers", fn := fun _ => fun
  | [d1, d2] => { results := [.lit (.bool false)], args := [d1, d2] }
  | _ => none }
def FnExactEqualServersWrongFalsely : Prop := fnExactEqualServersRow.holds Try.pinned (OpenSpec.ofChange fnExactEqualServersWrong)

/-- 'laws.FnExactDecodeHex': WHATEVER THE INPUT: true; the input reads as it did. -/
def fnExactDecodeHexSpec : ChangeSpec := { name := "fnExactDecodeHex", fn := fun _ => fun
  | [d] => { results := [.lit (.bool true)], args := [d] }
  | _ => none }
def fnExactDecodeHexRow : OpenClaim := { program := "ytgannaafabhopaa", sum := "3bdfd6233c03123c53aef5d20b8ac4ba5f146cabf71207d181b8f8282d0dea67", func := "loop.example/g01926/laws.FnExactDecodeHex", spec := "fnExactDecodeHex", apart := false }
def FnExactDecodeHexSaid : Prop := fnExactDecodeHexRow.holds Try.pinned (OpenSpec.ofChange fnExactDecodeHexSpec)

/-- ITS FALSE NEIGHBOUR: 'it returns false'. Refute it at one input. -/
def fnExactDecodeHexWrong : ChangeSpec := { name := "fnExactDecodeHex", fn := fun _ => fun
  | [d] => { results := [.lit (.bool false)], args := [d] }
  | _ => none }
def FnExactDecodeHexWrongFalsely : Prop := fnExactDecodeHexRow.holds Try.pinned (OpenSpec.ofChange fnExactDecodeHexWrong)

/-- 'laws.FnExactMissingChunk': WHATEVER THE INPUT: true; the input reads as it did. -/
def fnExactMissingChunkSpec : ChangeSpec := { name := "fnExactMissingChunk", fn := fun _ => fun
  | [d1, d2] => { results := [.lit (.bool true)], args := [d1, d2] }
  | _ => none }
def fnExactMissingChunkRow : OpenClaim := { program := "ytgannaafabhopaa", sum := "3bdfd6233c03123c53aef5d20b8ac4ba5f146cabf71207d181b8f8282d0dea67", func := "loop.example/g01926/laws.FnExactMissingChunk", spec := "fnExactMissingChunk", apart := false }
def FnExactMissingChunkSaid : Prop := fnExactMissingChunkRow.holds Try.pinned (OpenSpec.ofChange fnExactMissingChunkSpec)

/-- ITS FALSE NEIGHBOUR: 'it returns false'. Refute it at one input. -/
def fnExactMissingChunkWrong : ChangeSpec := { name := "fnExactMissingChunk", fn := fun _ => fun
  | [d1, d2] => { results := [.lit (.bool false)], args := [d1, d2] }
  | _ => none }
def FnExactMissingChunkWrongFalsely : Prop := fnExactMissingChunkRow.holds Try.pinned (OpenSpec.ofChange fnExactMissingChunkWrong)

/-- 'laws.FnExactCommonPrefix': WHATEVER THE INPUT: true; the input reads as it did. -/
def fnExactCommonPrefixSpec : ChangeSpec := { name := "fnExactCommonPrefix", fn := fun _ => fun
  | [d1, d2] => { results := [.lit (.bool true)], args := [d1, d2] }
  | _ => none }
def fnExactCommonPrefixRow : OpenClaim := { program := "ytgannaafabhopaa", sum := "3bdfd6233c03123c53aef5d20b8ac4ba5f146cabf71207d181b8f8282d0dea67", func := "loop.example/g01926/laws.FnExactCommonPrefix", spec := "fnExactCommonPrefix", apart := false }
def FnExactCommonPrefixSaid : Prop := fnExactCommonPrefixRow.holds Try.pinned (OpenSpec.ofChange fnExactCommonPrefixSpec)

/-- ITS FALSE NEIGHBOUR: 'it returns false'. Refute it at one input. -/
def fnExactCommonPrefixWrong : ChangeSpec := { name := "fnExactCommonPrefix", fn := fun _ => fun
  | [d1, d2] => { results := [.lit (.bool false)], args := [d1, d2] }
  | _ => none }
def FnExactCommonPrefixWrongFalsely : Prop := fnExactCommonPrefixRow.holds Try.pinned (OpenSpec.ofChange fnExactCommonPrefixWrong)

/-- 'laws.FnExactIsPrefix': WHATEVER THE INPUT: true; the input reads as it did. -/
def fnExactIsPrefixSpec : ChangeSpec := { name := "fnExactIsPrefix", fn := fun _ => fun
  | [d1, d2] => { results := [.lit (.bool true)], args := [d1, d2] }
  | _ => none }
def fnExactIsPrefixRow : OpenClaim := { program := "ytgannaafabhopaa", sum := "3bdfd6233c03123c53aef5d20b8ac4ba5f146cabf71207d181b8f8282d0dea67", func := "loop.example/g01926/laws.FnExactIsPrefix", spec := "fnExactIsPrefix", apart := false }
def FnExactIsPrefixSaid : Prop := fnExactIsPrefixRow.holds Try.pinned (OpenSpec.ofChange fnExactIsPrefixSpec)

/-- ITS FALSE NEIGHBOUR: 'it returns false'. Refute it at one input. -/
def fnExactIsPrefixWrong : ChangeSpec := { name := "fnExactIsPrefix", fn := fun _ => fun
  | [d1, d2] => { results := [.lit (.bool false)], args := [d1, d2] }
  | _ => none }
def FnExactIsPrefixWrongFalsely : Prop := fnExactIsPrefixRow.holds Try.pinned (OpenSpec.ofChange fnExactIsPrefixWrong)

/-- 'laws.FnExactFindOp': WHATEVER THE INPUT: true; the input reads as it did. -/
def fnExactFindOpSpec : ChangeSpec := { name := "fnExactFindOp", fn := fun _ => fun
  | [d1, d2, d3] => { results := [.lit (.bool true)], args := [d1, d2, d3] }
  | _ => none }
def fnExactFindOpRow : OpenClaim := { program := "ytgannaafabhopaa", sum := "3bdfd6233c03123c53aef5d20b8ac4ba5f146cabf71207d181b8f8282d0dea67", func := "loop.example/g01926/laws.FnExactFindOp", spec := "fnExactFindOp", unfollowed := true, recurses := true, apart := false }
def FnExactFindOpSaid : Prop := fnExactFindOpRow.holds Try.pinned (OpenSpec.ofChange fnExactFindOpSpec)

/-- ITS FALSE NEIGHBOUR: 'it returns false'. Refute it at one input. -/
def fnExactFindOpWrong : ChangeSpec := { name := "fnExactFindOp", fn := fun _ => fun
  | [d1, d2, d3] => { results := [.lit (.bool false)], args := [d1, d2, d3] }
  | _ => none }
def FnExactFindOpWrongFalsely : Prop := fnExactFindOpRow.holds Try.pinned (OpenSpec.ofChange fnExactFindOpWrong)

/-- 'laws.FnExactIsLog': WHATEVER THE INPUT: true; the input reads as it did. -/
def fnExactIsLogSpec : ChangeSpec := { name := "fnExactIsLog", fn := fun _ => fun
  | [d] => { results := [.lit (.bool true)], args := [d] }
  | _ => none }
def fnExactIsLogRow : OpenClaim := { program := "ytgannaafabhopaa", sum := "3bdfd6233c03123c53aef5d20b8ac4ba5f146cabf71207d181b8f8282d0dea67", func := "loop.example/g01926/laws.FnExactIsLog", spec := "fnExactIsLog", apart := false }
def FnExactIsLogSaid : Prop := fnExactIsLogRow.holds Try.pinned (OpenSpec.ofChange fnExactIsLogSpec)

/-- ITS FALSE NEIGHBOUR: 'it returns false'. Refute it at one input. -/
def fnExactIsLogWrong : ChangeSpec := { name := "fnExactIsLog", fn := fun _ => fun
  | [d] => { results := [.lit (.bool false)], args := [d] }
  | _ => none }
def FnExactIsLogWrongFalsely : Prop := fnExactIsLogRow.holds Try.pinned (OpenSpec.ofChange fnExactIsLogWrong)

/-- 'laws.FnExactNewMachine': WHATEVER THE INPUT: true; the input reads as it did. -/
def fnExactNewMachineSpec : ChangeSpec := { name := "fnExactNewMachine", fn := fun _ => fun
  | [] => { results := [.lit (.bool true)], args := [] }
  | _ => none }
def fnExactNewMachineRow : OpenClaim := { program := "ytgannaafabhopaa", sum := "3bdfd6233c03123c53aef5d20b8ac4ba5f146cabf71207d181b8f8282d0dea67", func := "loop.example/g01926/laws.FnExactNewMachine", spec := "fnExactNewMachine", apart := false }
def FnExactNewMachineSaid : Prop := fnExactNewMachineRow.holds Try.pinned (OpenSpec.ofChange fnExactNewMachineSpec)

/-- ITS FALSE NEIGHBOUR: 'it returns false'. Refute it at one input. -/
def fnExactNewMachineWrong : ChangeSpec := { name := "fnExactNewMachine", fn := fun _ => fun
  | [] => { results := [.lit (.bool false)], args := [] }
  | _ => none }
def FnExactNewMachineWrongFalsely : Prop := fnExactNewMachineRow.holds Try.pinned (OpenSpec.ofChange fnExactNewMachineWrong)

/-- 'laws.FnExactSessionOf': WHATEVER THE INPUT: true; the input reads as it did. -/
def fnExactSessionOfSpec : ChangeSpec := { name := "fnExactSessionOf", fn := fun _ => fun
  | [d1, d2] => { results := [.lit (.bool true)], args := [d1, d2] }
  | _ => none }
def fnExactSessionOfRow : OpenClaim := { program := "ytgannaafabhopaa", sum := "3bdfd6233c03123c53aef5d20b8ac4ba5f146cabf71207d181b8f8282d0dea67", func := "loop.example/g01926/laws.FnExactSessionOf", spec := "fnExactSessionOf", apart := false }
def FnExactSessionOfSaid : Prop := fnExactSessionOfRow.holds Try.pinned (OpenSpec.ofChange fnExactSessionOfSpec)

/-- ITS FALSE NEIGHBOUR: 'it returns false'. Refute it at one input. -/
def fnExactSessionOfWrong : ChangeSpec := { name := "fnExactSessionOf", fn := fun _ => fun
  | [d1, d2] => { results := [.lit (.bool false)], args := [d1, d2] }
  | _ => none }
def FnExactSessionOfWrongFalsely : Prop := fnExactSessionOfRow.holds Try.pinned (OpenSpec.ofChange fnExactSessionOfWrong)

/-- 'laws.FnExactEqualMachines': WHATEVER THE INPUT: true; the input reads as it did. -/
def fnExactEqualMachinesSpec : ChangeSpec := { name := "fnExactEqualMachines", fn := fun _ => fun
  | [d1, d2] => { results := [.lit (.bool true)], args := [d1, d2] }
  | _ => none }
def fnExactEqualMachinesRow : OpenClaim := { program := "ytgannaafabhopaa", sum := "3bdfd6233c03123c53aef5d20b8ac4ba5f146cabf71207d181b8f8282d0dea67", func := "loop.example/g01926/laws.FnExactEqualMachines", spec := "fnExactEqualMachines", apart := false }
def FnExactEqualMachinesSaid : Prop := fnExactEqualMachinesRow.holds Try.pinned (OpenSpec.ofChange fnExactEqualMachinesSpec)

/-- ITS FALSE NEIGHBOUR: 'it returns false'. Refute it at one input. -/
def fnExactEqualMachinesWrong : ChangeSpec := { name := "fnExactEqualMachines", fn := fun _ => fun
  | [d1, d2] => { results := [.lit (.bool false)], args := [d1, d2] }
  | _ => none }
def FnExactEqualMachinesWrongFalsely : Prop := fnExactEqualMachinesRow.holds Try.pinned (OpenSpec.ofChange fnExactEqualMachinesWrong)

/-- 'laws.FnExactIsValidMachine': WHATEVER THE INPUT: true; the input reads as it did. -/
def fnExactIsValidMachineSpec : ChangeSpec := { name := "fnExactIsValidMachine", fn := fun _ => fun
  | [d] => { results := [.lit (.bool true)], args := [d] }
  | _ => none }
def fnExactIsValidMachineRow : OpenClaim := { program := "ytgannaafabhopaa", sum := "3bdfd6233c03123c53aef5d20b8ac4ba5f146cabf71207d181b8f8282d0dea67", func := "loop.example/g01926/laws.FnExactIsValidMachine", spec := "fnExactIsValidMachine", unfollowed := true, recurses := true, apart := false }
def FnExactIsValidMachineSaid : Prop := fnExactIsValidMachineRow.holds Try.pinned (OpenSpec.ofChange fnExactIsValidMachineSpec)

/-- ITS FALSE NEIGHBOUR: 'it returns false'. Refute it at one input. -/
def fnExactIsValidMachineWrong : ChangeSpec := { name := "fnExactIsValidMachine", fn := fun _ => fun
  | [d] => { results := [.lit (.bool false)], args := [d] }
  | _ => none }
def FnExactIsValidMachineWrongFalsely : Prop := fnExactIsValidMachineRow.holds Try.pinned (OpenSpec.ofChange fnExactIsValidMachineWrong)

/-- 'laws.FnExactReadObject': WHATEVER THE INPUT: true; the input reads as it did. -/
def fnExactReadObjectSpec : ChangeSpec := { name := "fnExactReadObject", fn := fun _ => fun
  | [d1, d2] => { results := [.lit (.bool true)], args := [d1, d2] }
  | _ => none }
def fnExactReadObjectRow : OpenClaim := { program := "ytgannaafabhopaa", sum := "3bdfd6233c03123c53aef5d20b8ac4ba5f146cabf71207d181b8f8282d0dea67", func := "loop.example/g01926/laws.FnExactReadObject", spec := "fnExactReadObject", unfollowed := true, recurses := true, apart := false }
def FnExactReadObjectSaid : Prop := fnExactReadObjectRow.holds Try.pinned (OpenSpec.ofChange fnExactReadObjectSpec)

/-- ITS FALSE NEIGHBOUR: 'it returns false'. Refute it at one input. -/
def fnExactReadObjectWrong : ChangeSpec := { name := "fnExactReadObject", fn := fun _ => fun
  | [d1, d2] => { results := [.lit (.bool false)], args := [d1, d2] }
  | _ => none }
def FnExactReadObjectWrongFalsely : Prop := fnExactReadObjectRow.holds Try.pinned (OpenSpec.ofChange fnExactReadObjectWrong)

/- THE SECOND FORM. 'bulk': how many values and letters a reading holds, each counted each time it is reached (what is shared counts as often as it is met; a slice's spare places count too). A statement '..UptoSaid' is the law's where the arguments, and the package variables that the reading takes, are together of bulk at most 1048576: NARROWER than '..Said'. Prove '..Said' where nothing that the law and all that it calls make is longer than what came in: it says more and counts as full. Else prove '..UptoSaid'. A law counts once. -/
mutual
def uptoBulk {H : Type} : DataW H → Nat
  | .lit (.string bytes) => bytes.length + 1
  | .lit _ => 1
  | .nil => 1
  | .ptr d => uptoBulk d + 1
  | .slice elems spare => uptoBulkAll elems + uptoBulkAll spare + 1
  | .agg parts => uptoBulkAll parts + 1
  | .iface _ d => uptoBulk d + 1
  | .map entries => uptoBulkEntries entries + 1
  | .held _ => 1
def uptoBulkAll {H : Type} : List (DataW H) → Nat
  | [] => 0
  | d :: r => uptoBulk d + uptoBulkAll r
def uptoBulkEntries {H : Type} : List (Lit × DataW H) → Nat
  | [] => 0
  | x :: r => uptoBulkEntry x + uptoBulkEntries r
def uptoBulkEntry {H : Type} : Lit × DataW H → Nat
  | (.string bytes, d) => bytes.length + uptoBulk d + 1
  | (_, d) => uptoBulk d + 1
 end
def uptoSmall : (H : Type) → List (DataW H) → Bool := fun _ ds => decide (uptoBulkAll ds ≤ 1048576)
def OpenSpec.upto (s : _root_.Go.ChangeSpec) : _root_.Go.OpenSpec := { _root_.Go.OpenSpec.ofChange s with cond := some uptoSmall }

/-- 'laws.FnExactEqualServers', WHERE WHAT IT READS IS OF BULK AT MOST 1048576: true; the input reads as it did. -/
def fnExactEqualServersUptoRow : OpenClaim := { program := "ytgannaafabhopaa", sum := "3bdfd6233c03123c53aef5d20b8ac4ba5f146cabf71207d181b8f8282d0dea67", func := "loop.example/g01926/laws.FnExactEqualServers", spec := "fnExactEqualServers", apart := false, narrowed := true }
def FnExactEqualServersUptoSaid : Prop := fnExactEqualServersUptoRow.holds Try.pinned (OpenSpec.upto fnExactEqualServersSpec)

/-- 'laws.FnExactDecodeHex', WHERE WHAT IT READS IS OF BULK AT MOST 1048576: true; the input reads as it did. -/
def fnExactDecodeHexUptoRow : OpenClaim := { program := "ytgannaafabhopaa", sum := "3bdfd6233c03123c53aef5d20b8ac4ba5f146cabf71207d181b8f8282d0dea67", func := "loop.example/g01926/laws.FnExactDecodeHex", spec := "fnExactDecodeHex", apart := false, narrowed := true }
def FnExactDecodeHexUptoSaid : Prop := fnExactDecodeHexUptoRow.holds Try.pinned (OpenSpec.upto fnExactDecodeHexSpec)

/-- 'laws.FnExactMissingChunk', WHERE WHAT IT READS IS OF BULK AT MOST 1048576: true; the input reads as it did. -/
def fnExactMissingChunkUptoRow : OpenClaim := { program := "ytgannaafabhopaa", sum := "3bdfd6233c03123c53aef5d20b8ac4ba5f146cabf71207d181b8f8282d0dea67", func := "loop.example/g01926/laws.FnExactMissingChunk", spec := "fnExactMissingChunk", apart := false, narrowed := true }
def FnExactMissingChunkUptoSaid : Prop := fnExactMissingChunkUptoRow.holds Try.pinned (OpenSpec.upto fnExactMissingChunkSpec)

/-- 'laws.FnExactCommonPrefix', WHERE WHAT IT READS IS OF BULK AT MOST 1048576: true; the input reads as it did. -/
def fnExactCommonPrefixUptoRow : OpenClaim := { program := "ytgannaafabhopaa", sum := "3bdfd6233c03123c53aef5d20b8ac4ba5f146cabf71207d181b8f8282d0dea67", func := "loop.example/g01926/laws.FnExactCommonPrefix", spec := "fnExactCommonPrefix", apart := false, narrowed := true }
def FnExactCommonPrefixUptoSaid : Prop := fnExactCommonPrefixUptoRow.holds Try.pinned (OpenSpec.upto fnExactCommonPrefixSpec)

/-- 'laws.FnExactIsPrefix', WHERE WHAT IT READS IS OF BULK AT MOST 1048576: true; the input reads as it did. -/
def fnExactIsPrefixUptoRow : OpenClaim := { program := "ytgannaafabhopaa", sum := "3bdfd6233c03123c53aef5d20b8ac4ba5f146cabf71207d181b8f8282d0dea67", func := "loop.example/g01926/laws.FnExactIsPrefix", spec := "fnExactIsPrefix", apart := false, narrowed := true }
def FnExactIsPrefixUptoSaid : Prop := fnExactIsPrefixUptoRow.holds Try.pinned (OpenSpec.upto fnExactIsPrefixSpec)

/-- 'laws.FnExactFindOp', WHERE WHAT IT READS IS OF BULK AT MOST 1048576: true; the input reads as it did. -/
def fnExactFindOpUptoRow : OpenClaim := { program := "ytgannaafabhopaa", sum := "3bdfd6233c03123c53aef5d20b8ac4ba5f146cabf71207d181b8f8282d0dea67", func := "loop.example/g01926/laws.FnExactFindOp", spec := "fnExactFindOp", unfollowed := true, recurses := true, apart := false, narrowed := true }
def FnExactFindOpUptoSaid : Prop := fnExactFindOpUptoRow.holds Try.pinned (OpenSpec.upto fnExactFindOpSpec)

/-- 'laws.FnExactIsLog', WHERE WHAT IT READS IS OF BULK AT MOST 1048576: true; the input reads as it did. -/
def fnExactIsLogUptoRow : OpenClaim := { program := "ytgannaafabhopaa", sum := "3bdfd6233c03123c53aef5d20b8ac4ba5f146cabf71207d181b8f8282d0dea67", func := "loop.example/g01926/laws.FnExactIsLog", spec := "fnExactIsLog", apart := false, narrowed := true }
def FnExactIsLogUptoSaid : Prop := fnExactIsLogUptoRow.holds Try.pinned (OpenSpec.upto fnExactIsLogSpec)

/-- 'laws.FnExactNewMachine', WHERE WHAT IT READS IS OF BULK AT MOST 1048576: true; the input reads as it did. -/
def fnExactNewMachineUptoRow : OpenClaim := { program := "ytgannaafabhopaa", sum := "3bdfd6233c03123c53aef5d20b8ac4ba5f146cabf71207d181b8f8282d0dea67", func := "loop.example/g01926/laws.FnExactNewMachine", spec := "fnExactNewMachine", apart := false, narrowed := true }
def FnExactNewMachineUptoSaid : Prop := fnExactNewMachineUptoRow.holds Try.pinned (OpenSpec.upto fnExactNewMachineSpec)

/-- 'laws.FnExactSessionOf', WHERE WHAT IT READS IS OF BULK AT MOST 1048576: true; the input reads as it did. -/
def fnExactSessionOfUptoRow : OpenClaim := { program := "ytgannaafabhopaa", sum := "3bdfd6233c03123c53aef5d20b8ac4ba5f146cabf71207d181b8f8282d0dea67", func := "loop.example/g01926/laws.FnExactSessionOf", spec := "fnExactSessionOf", apart := false, narrowed := true }
def FnExactSessionOfUptoSaid : Prop := fnExactSessionOfUptoRow.holds Try.pinned (OpenSpec.upto fnExactSessionOfSpec)

/-- 'laws.FnExactEqualMachines', WHERE WHAT IT READS IS OF BULK AT MOST 1048576: true; the input reads as it did. -/
def fnExactEqualMachinesUptoRow : OpenClaim := { program := "ytgannaafabhopaa", sum := "3bdfd6233c03123c53aef5d20b8ac4ba5f146cabf71207d181b8f8282d0dea67", func := "loop.example/g01926/laws.FnExactEqualMachines", spec := "fnExactEqualMachines", apart := false, narrowed := true }
def FnExactEqualMachinesUptoSaid : Prop := fnExactEqualMachinesUptoRow.holds Try.pinned (OpenSpec.upto fnExactEqualMachinesSpec)

/-- 'laws.FnExactIsValidMachine', WHERE WHAT IT READS IS OF BULK AT MOST 1048576: true; the input reads as it did. -/
def fnExactIsValidMachineUptoRow : OpenClaim := { program := "ytgannaafabhopaa", sum := "3bdfd6233c03123c53aef5d20b8ac4ba5f146cabf71207d181b8f8282d0dea67", func := "loop.example/g01926/laws.FnExactIsValidMachine", spec := "fnExactIsValidMachine", unfollowed := true, recurses := true, apart := false, narrowed := true }
def FnExactIsValidMachineUptoSaid : Prop := fnExactIsValidMachineUptoRow.holds Try.pinned (OpenSpec.upto fnExactIsValidMachineSpec)

/-- 'laws.FnExactReadObject', WHERE WHAT IT READS IS OF BULK AT MOST 1048576: true; the input reads as it did. -/
def fnExactReadObjectUptoRow : OpenClaim := { program := "ytgannaafabhopaa", sum := "3bdfd6233c03123c53aef5d20b8ac4ba5f146cabf71207d181b8f8282d0dea67", func := "loop.example/g01926/laws.FnExactReadObject", spec := "fnExactReadObject", unfollowed := true, recurses := true, apart := false, narrowed := true }
def FnExactReadObjectUptoSaid : Prop := fnExactReadObjectUptoRow.holds Try.pinned (OpenSpec.upto fnExactReadObjectSpec)

end Rows
end Go.Proofs.Ytgannaafabhopaa
