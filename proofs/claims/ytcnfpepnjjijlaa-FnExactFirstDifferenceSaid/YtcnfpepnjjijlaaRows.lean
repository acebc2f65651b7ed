/-
  No cell of these rows narrows 'for every input' (looked for: loops, veiled, ifaces, maps, wideKeys, modest, calm, conditions, laid).
  DERIVED. THE GIVEN ROWS OF THIS SEAT. 12 by the template 'for every input the law returns true; each argument reads behind the call as it read before'; 0 by the template 'total and deterministic' (their statements: YtcnfpepnjjijlaaTotals.lean).
  GIVEN WITH THE SEED: the statements are not yours to turn. If you find one false, say at which input.
  Laid BY PROGRAM, IN A SANDBOX (cutbox-rows.mjs): the forced cells as the released guide's own fill.sh prints them over the translation 59de53c4e2fa2e50… (all of the seat's roots in one cut). By AI agents, Wed Nov 11 2026. No macro, syntax, notation, axiom, sorry.
-/
import Derived.Test.YtcnfpepnjjijlaaChecked
import GoSem.Claim
import GoSem.ClaimJoined
import GoSem.ClaimMapViews
import Derived.JoinedTies
import Derived.KernelRfl
namespace Go.Proofs.Ytcnfpepnjjijlaa
/- THE CELL 'sum', in the pinned program and in every row, IS THE sha256 OF THE DUMP (.gsa) THAT YtcnfpepnjjijlaaProg.lean LOADS. Nothing in Lean hashes anything: it is a label: what it is worth is what the hold of that sum in a sandbox is worth. -/
noncomputable def Try.pinned : Pinned := { name := "ytcnfpepnjjijlaa", sum := "59de53c4e2fa2e50ac3e186ae09a3886cd476a90030cacff8dedff5a00fc1474", checked := Try.checked }
namespace Rows
def none {H : Type} : Left H := { results := [], args := [] }

/-- 'laws.FnExactConstants': WHATEVER THE INPUT: true; the input reads as it did. -/
def fnExactConstantsSpec : ChangeSpec := { name := "fnExactConstants", fn := fun _ => fun
  | [] => { results := [.lit (.bool true)], args := [] }
  | _ => none }
def fnExactConstantsRow : OpenClaim := { program := "ytcnfpepnjjijlaa", sum := "59de53c4e2fa2e50ac3e186ae09a3886cd476a90030cacff8dedff5a00fc1474", func := "loop.example/g01926/laws.FnExactConstants", spec := "fnExactConstants", apart := false }
def FnExactConstantsSaid : Prop := fnExactConstantsRow.holds Try.pinned (OpenSpec.ofChange fnExactConstantsSpec)

/-- ITS FALSE NEIGHBOUR: 'it returns false'. Refute it at one input. -/
def fnExactConstantsWrong : ChangeSpec := { name := "fnExactConstants", fn := fun _ => fun
  | [] => { results := [.lit (.bool false)], args := [] }
  | _ => none }
def FnExactConstantsWrongFalsely : Prop := fnExactConstantsRow.holds Try.pinned (OpenSpec.ofChange fnExactConstantsWrong)

/-- 'laws.FnExactIsNewFormat': WHATEVER THE INPUT: true; the input reads as it did. -/
def fnExactIsNewFormatSpec : ChangeSpec := { name := "fnExactIsNewFormat", fn := fun _ => fun
  | [d] => { results := [.lit (.bool true)], args := [d] }
  | _ => none }
def fnExactIsNewFormatRow : OpenClaim := { program := "ytcnfpepnjjijlaa", sum := "59de53c4e2fa2e50ac3e186ae09a3886cd476a90030cacff8dedff5a00fc1474", func := "loop.example/g01926/laws.FnExactIsNewFormat", spec := "fnExactIsNewFormat", apart := false }
def FnExactIsNewFormatSaid : Prop := fnExactIsNewFormatRow.holds Try.pinned (OpenSpec.ofChange fnExactIsNewFormatSpec)

/-- ITS FALSE NEIGHBOUR: 'it returns false'. Refute it at one input. -/
def fnExactIsNewFormatWrong : ChangeSpec := { name := "fnExactIsNewFormat", fn := fun _ => fun
  | [d] => { results := [.lit (.bool false)], args := [d] }
  | _ => none }
def FnExactIsNewFormatWrongFalsely : Prop := fnExactIsNewFormatRow.holds Try.pinned (OpenSpec.ofChange fnExactIsNewFormatWrong)

/-- 'laws.FnExactChecksum': WHATEVER THE INPUT: true; the input reads as it did. -/
def fnExactChecksumSpec : ChangeSpec := { name := "fnExactChecksum", fn := fun _ => fun
  | [d] => { results := [.lit (.bool true)], args := [d] }
  | _ => none }
def fnExactChecksumRow : OpenClaim := { program := "ytcnfpepnjjijlaa", sum := "59de53c4e2fa2e50ac3e186ae09a3886cd476a90030cacff8dedff5a00fc1474", func := "loop.example/g01926/laws.FnExactChecksum", spec := "fnExactChecksum", apart := false }
def FnExactChecksumSaid : Prop := fnExactChecksumRow.holds Try.pinned (OpenSpec.ofChange fnExactChecksumSpec)

/-- ITS FALSE NEIGHBOUR: 'it returns false'. Refute it at one input. -/
def fnExactChecksumWrong : ChangeSpec := { name := "fnExactChecksum", fn := fun _ => fun
  | [d] => { results := [.lit (.bool false)], args := [d] }
  | _ => none }
def FnExactChecksumWrongFalsely : Prop := fnExactChecksumRow.holds Try.pinned (OpenSpec.ofChange fnExactChecksumWrong)

/-- 'laws.FnExactEncodeHex': WHATEVER THE INPUT: true; the input reads as it did. -/
def fnExactEncodeHexSpec : ChangeSpec := { name := "fnExactEncodeHex", fn := fun _ => fun
  | [d] => { results := [.lit (.bool true)], args := [d] }
  | _ => none }
def fnExactEncodeHexRow : OpenClaim := { program := "ytcnfpepnjjijlaa", sum := "59de53c4e2fa2e50ac3e186ae09a3886cd476a90030cacff8dedff5a00fc1474", func := "loop.example/g01926/laws.FnExactEncodeHex", spec := "fnExactEncodeHex", apart := false }
def FnExactEncodeHexSaid : Prop := fnExactEncodeHexRow.holds Try.pinned (OpenSpec.ofChange fnExactEncodeHexSpec)

/-- ITS FALSE NEIGHBOUR: 'it returns false'. Refute it at one input. -/
def fnExactEncodeHexWrong : ChangeSpec := { name := "fnExactEncodeHex", fn := fun _ => fun
  | [d] => { results := [.lit (.bool false)], args := [d] }
  | _ => none }
def FnExactEncodeHexWrongFalsely : Prop := fnExactEncodeHexRow.holds Try.pinned (OpenSpec.ofChange fnExactEncodeHexWrong)

/-- 'laws.FnExactDecodeFixed': WHATEVER THE INPUT: true; the input reads as it did. -/
def fnExactDecodeFixedSpec : ChangeSpec := { name := "fnExactDecodeFixed", fn := fun _ => fun
  | [d1, d2] => { results := [.lit (.bool true)], args := [d1, d2] }
  | _ => none }
def fnExactDecodeFixedRow : OpenClaim := { program := "ytcnfpepnjjijlaa", sum := "59de53c4e2fa2e50ac3e186ae09a3886cd476a90030cacff8dedff5a00fc1474", func := "loop.example/g01926/laws.FnExactDecodeFixed", spec := "fnExactDecodeFixed", apart := false }
def FnExactDecodeFixedSaid : Prop := fnExactDecodeFixedRow.holds Try.pinned (OpenSpec.ofChange fnExactDecodeFixedSpec)

/-- ITS FALSE NEIGHBOUR: 'it returns false'. Refute it at one input. -/
def fnExactDecodeFixedWrong : ChangeSpec := { name := "fnExactDecodeFixed", fn := fun _ => fun
  | [d1, d2] => { results := [.lit (.bool false)], args := [d1, d2] }
  | _ => none }
def FnExactDecodeFixedWrongFalsely : Prop := fnExactDecodeFixedRow.holds Try.pinned (OpenSpec.ofChange fnExactDecodeFixedWrong)

/-- 'laws.FnExactEncodeVarint': WHATEVER THE INPUT: true; the input reads as it did. -/
def fnExactEncodeVarintSpec : ChangeSpec := { name := "fnExactEncodeVarint", fn := fun _ => fun
  | [d] => { results := [.lit (.bool true)], args := [d] }
  | _ => none }
def fnExactEncodeVarintRow : OpenClaim := { program := "ytcnfpepnjjijlaa", sum := "59de53c4e2fa2e50ac3e186ae09a3886cd476a90030cacff8dedff5a00fc1474", func := "loop.example/g01926/laws.FnExactEncodeVarint", spec := "fnExactEncodeVarint", apart := false }
def FnExactEncodeVarintSaid : Prop := fnExactEncodeVarintRow.holds Try.pinned (OpenSpec.ofChange fnExactEncodeVarintSpec)

/-- ITS FALSE NEIGHBOUR: 'it returns false'. Refute it at one input. -/
def fnExactEncodeVarintWrong : ChangeSpec := { name := "fnExactEncodeVarint", fn := fun _ => fun
  | [d] => { results := [.lit (.bool false)], args := [d] }
  | _ => none }
def FnExactEncodeVarintWrongFalsely : Prop := fnExactEncodeVarintRow.holds Try.pinned (OpenSpec.ofChange fnExactEncodeVarintWrong)

/-- 'laws.FnExactIsValidOp': WHATEVER THE INPUT: true; the input reads as it did. -/
def fnExactIsValidOpSpec : ChangeSpec := { name := "fnExactIsValidOp", fn := fun _ => fun
  | [d] => { results := [.lit (.bool true)], args := [d] }
  | _ => none }
def fnExactIsValidOpRow : OpenClaim := { program := "ytcnfpepnjjijlaa", sum := "59de53c4e2fa2e50ac3e186ae09a3886cd476a90030cacff8dedff5a00fc1474", func := "loop.example/g01926/laws.FnExactIsValidOp", spec := "fnExactIsValidOp", apart := false }
def FnExactIsValidOpSaid : Prop := fnExactIsValidOpRow.holds Try.pinned (OpenSpec.ofChange fnExactIsValidOpSpec)

/-- ITS FALSE NEIGHBOUR: 'it returns false'. Refute it at one input. -/
def fnExactIsValidOpWrong : ChangeSpec := { name := "fnExactIsValidOp", fn := fun _ => fun
  | [d] => { results := [.lit (.bool false)], args := [d] }
  | _ => none }
def FnExactIsValidOpWrongFalsely : Prop := fnExactIsValidOpRow.holds Try.pinned (OpenSpec.ofChange fnExactIsValidOpWrong)

/-- 'laws.FnExactEncodeFixed': WHATEVER THE INPUT: true; the input reads as it did. -/
def fnExactEncodeFixedSpec : ChangeSpec := { name := "fnExactEncodeFixed", fn := fun _ => fun
  | [d1, d2] => { results := [.lit (.bool true)], args := [d1, d2] }
  | _ => none }
def fnExactEncodeFixedRow : OpenClaim := { program := "ytcnfpepnjjijlaa", sum := "59de53c4e2fa2e50ac3e186ae09a3886cd476a90030cacff8dedff5a00fc1474", func := "loop.example/g01926/laws.FnExactEncodeFixed", spec := "fnExactEncodeFixed", apart := false }
def FnExactEncodeFixedSaid : Prop := fnExactEncodeFixedRow.holds Try.pinned (OpenSpec.ofChange fnExactEncodeFixedSpec)

/-- ITS FALSE NEIGHBOUR: 'it returns false'. Refute it at one input. -/
def fnExactEncodeFixedWrong : ChangeSpec := { name := "fnExactEncodeFixed", fn := fun _ => fun
  | [d1, d2] => { results := [.lit (.bool false)], args := [d1, d2] }
  | _ => none }
def FnExactEncodeFixedWrongFalsely : Prop := fnExactEncodeFixedRow.holds Try.pinned (OpenSpec.ofChange fnExactEncodeFixedWrong)

/-- 'laws.FnExactAreServers': WHATEVER THE INPUT: true; the input reads as it did. -/
def fnExactAreServersSpec : ChangeSpec := { name := "fnExactAreServers", fn := fun _ => fun
  | [d] => { results := [.lit (.bool true)], args := [d] }
  | _ => none }
def fnExactAreServersRow : OpenClaim := { program := "ytcnfpepnjjijlaa", sum := "59de53c4e2fa2e50ac3e186ae09a3886cd476a90030cacff8dedff5a00fc1474", func := "loop.example/g01926/laws.FnExactAreServers", spec := "fnExactAreServers", apart := false }
def FnExactAreServersSaid : Prop := fnExactAreServersRow.holds Try.pinned (OpenSpec.ofChange fnExactAreServersSpec)

/-- ITS FALSE NEIGHBOUR: 'it returns false'. Refute it at one input. -/
def fnExactAreServersWrong : ChangeSpec := { name := "fnExactAreServers", fn := fun _ => fun
  | [d] => { results := [.lit (.bool false)], args := [d] }
  | _ => none }
def FnExactAreServersWrongFalsely : Prop := fnExactAreServersRow.holds Try.pinned (OpenSpec.ofChange fnExactAreServersWrong)

/-- 'laws.FnExactDecodeVarint': WHATEVER THE INPUT: true; the input reads as it did. -/
def fnExactDecodeVarintSpec : ChangeSpec := { name := "fnExactDecodeVarint", fn := fun _ => fun
  | [d] => { results := [.lit (.bool true)], args := [d] }
  | _ => none }
def fnExactDecodeVarintRow : OpenClaim := { program := "ytcnfpepnjjijlaa", sum := "59de53c4e2fa2e50ac3e186ae09a3886cd476a90030cacff8dedff5a00fc1474", func := "loop.example/g01926/laws.FnExactDecodeVarint", spec := "fnExactDecodeVarint", apart := false }
def FnExactDecodeVarintSaid : Prop := fnExactDecodeVarintRow.holds Try.pinned (OpenSpec.ofChange fnExactDecodeVarintSpec)

/-- ITS FALSE NEIGHBOUR: 'it returns false'. Refute it at one input. -/
def fnExactDecodeVarintWrong : ChangeSpec := { name := "fnExactDecodeVarint", fn := fun _ => fun
  | [d] => { results := [.lit (.bool false)], args := [d] }
  | _ => none }
def FnExactDecodeVarintWrongFalsely : Prop := fnExactDecodeVarintRow.holds Try.pinned (OpenSpec.ofChange fnExactDecodeVarintWrong)

/-- 'laws.FnExactHasServer': WHATEVER THE INPUT: true; the input reads as it did. -/
def fnExactHasServerSpec : ChangeSpec := { name := "fnExactHasServer", fn := fun _ => fun
  | [d1, d2] => { results := [.lit (.bool true)], args := [d1, d2] }
  | _ => none }
def fnExactHasServerRow : OpenClaim := { program := "ytcnfpepnjjijlaa", sum := "59de53c4e2fa2e50ac3e186ae09a3886cd476a90030cacff8dedff5a00fc1474", func := "loop.example/g01926/laws.FnExactHasServer", spec := "fnExactHasServer", apart := false }
def FnExactHasServerSaid : Prop := fnExactHasServerRow.holds Try.pinned (OpenSpec.ofChange fnExactHasServerSpec)

/-- ITS FALSE NEIGHBOUR: 'it returns false'. Refute it at one input. -/
def fnExactHasServerWrong : ChangeSpec := { name := "fnExactHasServer", fn := fun _ => fun
  | [d1, d2] => { results := [.lit (.bool false)], args := [d1, d2] }
  | _ => none }
def FnExactHasServerWrongFalsely : Prop := fnExactHasServerRow.holds Try.pinned (OpenSpec.ofChange fnExactHasServerWrong)

/-- 'laws.FnExactFirstDifference': WHATEVER THE INPUT: true; the input reads as it did. -/
def fnExactFirstDifferenceSpec : ChangeSpec := { name := "fnExactFirstDifference", fn := fun _ => fun
  | [d1, d2] => { results := [.lit (.bool true)], args := [d1, d2] }
  | _ => none }
def fnExactFirstDifferenceRow : OpenClaim := { program := "ytcnfpepnjjijlaa", sum := "59de53c4e2fa2e50ac3e186ae09a3886cd476a90030cacff8dedff5a00fc1474", func := "loop.example/g01926/laws.FnExactFirstDifference", spec := "fnExactFirstDifference", apart := false }
def FnExactFirstDifferenceSaid : Prop := fnExactFirstDifferenceRow.holds Try.pinned (OpenSpec.ofChange fnExactFirstDifferenceSpec)

/-- ITS FALSE NEIGHBOUR: 'it returns false'. Refute it at one input. -/
def fnExactFirstDifferenceWrong : ChangeSpec := { name := "fnExactFirstDifference", fn := fun _ => fun
  | [d1, d2] => { results := [.lit (.bool false)], args := [d1, d2] }
  | _ => none }
def FnExactFirstDifferenceWrongFalsely : Prop := fnExactFirstDifferenceRow.holds Try.pinned (OpenSpec.ofChange fnExactFirstDifferenceWrong)

/- THE SECOND FORM. 'bulk': how many values and letters a reading holds, each counted each time it is reached (what is shared counts as often as it is met; a slice's spare places count too). A statement '..UptoSaid' is the law's where the arguments, and the package variables that the reading takes, are together of bulk at most 1048576: NARROWER than '..Said'. Prove '..Said' where nothing that the law and all that it calls make is longer than what came in: it says more and counts as full. Else prove '..UptoSaid'. A law counts once. -/
mutual
def uptoBulk {H : Type} : DataW H → Nat
  | .lit (.string bytes) => bytes.length + 1
  | .lit _ => 1
  | .nil => 1
  | .ptr d => uptoBulk d + 1
  | .slice elems spare => uptoBulkAll elems + uptoBulkAll spare + 1
  | .agg parts => uptoBulkAll parts + 1
  | .iface _ d => uptoBulk d + 1
  | .map entries => uptoBulkEntries entries + 1
  | .held _ => 1
def uptoBulkAll {H : Type} : List (DataW H) → Nat
  | [] => 0
  | d :: r => uptoBulk d + uptoBulkAll r
def uptoBulkEntries {H : Type} : List (Lit × DataW H) → Nat
  | [] => 0
  | x :: r => uptoBulkEntry x + uptoBulkEntries r
def uptoBulkEntry {H : Type} : Lit × DataW H → Nat
  | (.string bytes, d) => bytes.length + uptoBulk d + 1
  | (_, d) => uptoBulk d + 1
 end
def uptoSmall : (H : Type) → List (DataW H) → Bool := fun _ ds => decide (uptoBulkAll ds ≤ 1048576)
def OpenSpec.upto (s : _root_.Go.ChangeSpec) : _root_.Go.OpenSpec := { _root_.Go.OpenSpec.ofChange s with cond := some uptoSmall }

/-- 'laws.FnExactConstants', WHERE WHAT IT READS IS OF BULK AT MOST 1048576: true; the input reads as it did. -/
def fnExactConstantsUptoRow : OpenClaim := { program := "ytcnfpepnjjijlaa", sum := "59de53c4e2fa2e50ac3e186ae09a3886cd476a90030cacff8dedff5a00fc1474", func := "loop.example/g01926/laws.FnExactConstants", spec := "fnExactConstants", apart := false, narrowed := true }
def FnExactConstantsUptoSaid : Prop := fnExactConstantsUptoRow.holds Try.pinned (OpenSpec.upto fnExactConstantsSpec)

/-- 'laws.FnExactIsNewFormat', WHERE WHAT IT READS IS OF BULK AT MOST 1048576: true; the input reads as it did. -/
def fnExactIsNewFormatUptoRow : OpenClaim := { program := "ytcnfpepnjjijlaa", sum := "59de53c4e2fa2e50ac3e186ae09a3886cd476a90030cacff8dedff5a00fc1474", func := "loop.example/g01926/laws.FnExactIsNewFormat", spec := "fnExactIsNewFormat", apart := false, narrowed := true }
def FnExactIsNewFormatUptoSaid : Prop := fnExactIsNewFormatUptoRow.holds Try.pinned (OpenSpec.upto fnExactIsNewFormatSpec)

/-- 'laws.FnExactChecksum', WHERE WHAT IT READS IS OF BULK AT MOST 1048576: true; the input reads as it did. -/
def fnExactChecksumUptoRow : OpenClaim := { program := "ytcnfpepnjjijlaa", sum := "59de53c4e2fa2e50ac3e186ae09a3886cd476a90030cacff8dedff5a00fc1474", func := "loop.example/g01926/laws.FnExactChecksum", spec := "fnExactChecksum", apart := false, narrowed := true }
def FnExactChecksumUptoSaid : Prop := fnExactChecksumUptoRow.holds Try.pinned (OpenSpec.upto fnExactChecksumSpec)

/-- 'laws.FnExactEncodeHex', WHERE WHAT IT READS IS OF BULK AT MOST 1048576: true; the input reads as it did. -/
def fnExactEncodeHexUptoRow : OpenClaim := { program := "ytcnfpepnjjijlaa", sum := "59de53c4e2fa2e50ac3e186ae09a3886cd476a90030cacff8dedff5a00fc1474", func := "loop.example/g01926/laws.FnExactEncodeHex", spec := "fnExactEncodeHex", apart := false, narrowed := true }
def FnExactEncodeHexUptoSaid : Prop := fnExactEncodeHexUptoRow.holds Try.pinned (OpenSpec.upto fnExactEncodeHexSpec)

/-- 'laws.FnExactDecodeFixed', WHERE WHAT IT READS IS OF BULK AT MOST 1048576: true; the input reads as it did. -/
def fnExactDecodeFixedUptoRow : OpenClaim := { program := "ytcnfpepnjjijlaa", sum := "59de53c4e2fa2e50ac3e186ae09a3886cd476a90030cacff8dedff5a00fc1474", func := "loop.example/g01926/laws.FnExactDecodeFixed", spec := "fnExactDecodeFixed", apart := false, narrowed := true }
def FnExactDecodeFixedUptoSaid : Prop := fnExactDecodeFixedUptoRow.holds Try.pinned (OpenSpec.upto fnExactDecodeFixedSpec)

/-- 'laws.FnExactEncodeVarint', WHERE WHAT IT READS IS OF BULK AT MOST 1048576: true; the input reads as it did. -/
def fnExactEncodeVarintUptoRow : OpenClaim := { program := "ytcnfpepnjjijlaa", sum := "59de53c4e2fa2e50ac3e186ae09a3886cd476a90030cacff8dedff5a00fc1474", func := "loop.example/g01926/laws.FnExactEncodeVarint", spec := "fnExactEncodeVarint", apart := false, narrowed := true }
def FnExactEncodeVarintUptoSaid : Prop := fnExactEncodeVarintUptoRow.holds Try.pinned (OpenSpec.upto fnExactEncodeVarintSpec)

/-- 'laws.FnExactIsValidOp', WHERE WHAT IT READS IS OF BULK AT MOST 1048576: true; the input reads as it did. -/
def fnExactIsValidOpUptoRow : OpenClaim := { program := "ytcnfpepnjjijlaa", sum := "59de53c4e2fa2e50ac3e186ae09a3886cd476a90030cacff8dedff5a00fc1474", func := "loop.example/g01926/laws.FnExactIsValidOp", spec := "fnExactIsValidOp", apart := false, narrowed := true }
def FnExactIsValidOpUptoSaid : Prop := fnExactIsValidOpUptoRow.holds Try.pinned (OpenSpec.upto fnExactIsValidOpSpec)

/-- 'laws.FnExactEncodeFixed', WHERE WHAT IT READS IS OF BULK AT MOST 1048576: true; the input reads as it did. -/
def fnExactEncodeFixedUptoRow : OpenClaim := { program := "ytcnfpepnjjijlaa", sum := "59de53c4e2fa2e50ac3e186ae09a3886cd476a90030cacff8dedff5a00fc1474", func := "loop.example/g01926/laws.FnExactEncodeFixed", spec := "fnExactEncodeFixed", apart := false, narrowed := true }
def FnExactEncodeFixedUptoSaid : Prop := fnExactEncodeFixedUptoRow.holds Try.pinned (OpenSpec.upto fnExactEncodeFixedSpec)

/-- 'laws.FnExactAreServers', WHERE WHAT IT READS IS OF BULK AT MOST 1048576: true; the input reads as it did. -/
def fnExactAreServersUptoRow : OpenClaim := { program := "ytcnfpepnjjijlaa", sum := "59de53c4e2fa2e50ac3e186ae09a3886cd476a90030cacff8dedff5a00fc1474", func := "loop.example/g01926/laws.FnExactAreServers", spec := "fnExactAreServers", apart := false, narrowed := true }
def FnExactAreServersUptoSaid : Prop := fnExactAreServersUptoRow.holds Try.pinned (OpenSpec.upto fnExactAreServersSpec)

/-- 'laws.FnExactDecodeVarint', WHERE WHAT IT READS IS OF BULK AT MOST 1048576: true; the input reads as it did. -/
def fnExactDecodeVarintUptoRow : OpenClaim := { program := "ytcnfpepnjjijlaa", sum := "59de53c4e2fa2e50ac3e186ae09a3886cd476a90030cacff8dedff5a00fc1474", func := "loop.example/g01926/laws.FnExactDecodeVarint", spec := "fnExactDecodeVarint", apart := false, narrowed := true }
def FnExactDecodeVarintUptoSaid : Prop := fnExactDecodeVarintUptoRow.holds Try.pinned (OpenSpec.upto fnExactDecodeVarintSpec)

/-- 'laws.FnExactHasServer', WHERE WHAT IT READS IS OF BULK AT MOST 1048576: true; the input reads as it did. -/
def fnExactHasServerUptoRow : OpenClaim := { program := "ytcnfpepnjjijlaa", sum := "59de53c4e2fa2e50ac3e186ae09a3886cd476a90030cacff8dedff5a00fc1474", func := "loop.example/g01926/laws.FnExactHasServer", spec := "fnExactHasServer", apart := false, narrowed := true }
def FnExactHasServerUptoSaid : Prop := fnExactHasServerUptoRow.holds Try.pinned (OpenSpec.upto fnExactHasServerSpec)

/-- 'laws.FnExactFirstDifference', WHERE WHAT IT READS IS OF BULK AT MOST 1048576: true; the input reads as it did. -/
def fnExactFirstDifferenceUptoRow : OpenClaim := { program := "ytcnfpepnjjijlaa", sum := "59de53c4e2fa2e50ac3e186ae09a3886cd476a90030cacff8dedff5a00fc1474", func := "loop.example/g01926/laws.FnExactFirstDifference", spec := "fnExactFirstDifference", apart := false, narrowed := true }
def FnExactFirstDifferenceUptoSaid : Prop := fnExactFirstDifferenceUptoRow.holds Try.pinned (OpenSpec.upto fnExactFirstDifferenceSpec)

end Rows
end Go.Proofs.Ytcnfpepnjjijlaa
