/-
  NARROWER THAN 'FOR EVERY INPUT', by the rows' own cells (each row's printed sentence says how): FnExactFormatInt: laid · FnExactFormatResult: laid · FnExactParseInt: laid · FnExactFormatOp: laid · FnExactFormatServers: laid · FnExactParseServers: laid · FnExactFormatMachine: laid · FnExactFormatLog: laid · FnExactSnapshotText: laid · FnIntegerEncodings: laid.
  DERIVED. THE GIVEN ROWS OF THIS SEAT. 10 by the template 'for every input the law returns true; each argument reads behind the call as it read before'; 0 by the template 'total and deterministic' (their statements: YtlnkpjjmgkmofaaDoorTotals.lean).
  GIVEN WITH THE SEED: the statements are not yours to turn. If you find one false, say at which input.
  Laid BY PROGRAM, IN A SANDBOX (cutbox-rows.mjs): the forced cells as the released guide's own fill.sh prints them over the translation bcb5ae4c83bd1e0f… (all of the seat's roots in one cut). By AI agents, Wed Nov 11 2026. No macro, syntax, notation, axiom, sorry.
-/
import Derived.Test.YtlnkpjjmgkmofaaDoorChecked
import GoSem.Claim
import GoSem.ClaimJoined
import GoSem.ClaimMapViews
import Derived.JoinedTies
import Derived.KernelRfl
namespace Go.Proofs.YtlnkpjjmgkmofaaDoor
/- THE CELL 'sum', in the pinned program and in every row, IS THE sha256 OF THE DUMP (.gsa) THAT YtlnkpjjmgkmofaaDoorProg.lean LOADS. Nothing in Lean hashes anything: it is a label: what it is worth is what the hold of that sum in a sandbox is worth. -/
noncomputable def Tryd.pinned : Pinned := { name := "ytlnkpjjmgkmofaadoor", sum := "bcb5ae4c83bd1e0fe77589c93e68df5c7e8ac841690bc92e735f56f5b0fdcb3d", checked := Tryd.checked }
namespace Rows
def none {H : Type} : Left H := { results := [], args := [] }

/- WHAT THE LISTED PACKAGE-LEVEL VARIABLES READ AS WHEN THE CALL BEGINS. Each datum BY PROGRAM (the guide's laid-datum.mjs) off the statement by which the dump's own 'gosem.cut.vars' lays the variable. In a bare row this is a premise. The card (YtlnkpjjmgkmofaaDoorCards.lean) ties it to the program's text. -/
def laid_math_bits_deBruijn32tab {H : Type} : DataW H := .agg [.lit (.int .u8 0), .lit (.int .u8 1), .lit (.int .u8 28), .lit (.int .u8 2), .lit (.int .u8 29), .lit (.int .u8 14), .lit (.int .u8 24), .lit (.int .u8 3), .lit (.int .u8 30), .lit (.int .u8 22), .lit (.int .u8 20), .lit (.int .u8 15), .lit (.int .u8 25), .lit (.int .u8 17), .lit (.int .u8 4), .lit (.int .u8 8), .lit (.int .u8 31), .lit (.int .u8 27), .lit (.int .u8 13), .lit (.int .u8 23), .lit (.int .u8 21), .lit (.int .u8 19), .lit (.int .u8 16), .lit (.int .u8 7), .lit (.int .u8 26), .lit (.int .u8 12), .lit (.int .u8 18), .lit (.int .u8 6), .lit (.int .u8 11), .lit (.int .u8 5), .lit (.int .u8 10), .lit (.int .u8 9)]
def laid_math_bits_deBruijn64tab {H : Type} : DataW H := .agg [.lit (.int .u8 0), .lit (.int .u8 1), .lit (.int .u8 56), .lit (.int .u8 2), .lit (.int .u8 57), .lit (.int .u8 49), .lit (.int .u8 28), .lit (.int .u8 3), .lit (.int .u8 61), .lit (.int .u8 58), .lit (.int .u8 42), .lit (.int .u8 50), .lit (.int .u8 38), .lit (.int .u8 29), .lit (.int .u8 17), .lit (.int .u8 4), .lit (.int .u8 62), .lit (.int .u8 47), .lit (.int .u8 59), .lit (.int .u8 36), .lit (.int .u8 45), .lit (.int .u8 43), .lit (.int .u8 51), .lit (.int .u8 22), .lit (.int .u8 53), .lit (.int .u8 39), .lit (.int .u8 33), .lit (.int .u8 30), .lit (.int .u8 24), .lit (.int .u8 18), .lit (.int .u8 12), .lit (.int .u8 5), .lit (.int .u8 63), .lit (.int .u8 55), .lit (.int .u8 48), .lit (.int .u8 27), .lit (.int .u8 60), .lit (.int .u8 41), .lit (.int .u8 37), .lit (.int .u8 16), .lit (.int .u8 46), .lit (.int .u8 35), .lit (.int .u8 44), .lit (.int .u8 21), .lit (.int .u8 52), .lit (.int .u8 32), .lit (.int .u8 23), .lit (.int .u8 11), .lit (.int .u8 54), .lit (.int .u8 26), .lit (.int .u8 40), .lit (.int .u8 15), .lit (.int .u8 34), .lit (.int .u8 20), .lit (.int .u8 31), .lit (.int .u8 10), .lit (.int .u8 25), .lit (.int .u8 14), .lit (.int .u8 19), .lit (.int .u8 9), .lit (.int .u8 13), .lit (.int .u8 8), .lit (.int .u8 7), .lit (.int .u8 6)]
def laid_internal_strconv_uint64pow10 {H : Type} : DataW H := .agg [.lit (.int .u64 1), .lit (.int .u64 10), .lit (.int .u64 100), .lit (.int .u64 1000), .lit (.int .u64 10000), .lit (.int .u64 100000), .lit (.int .u64 1000000), .lit (.int .u64 10000000), .lit (.int .u64 100000000), .lit (.int .u64 1000000000), .lit (.int .u64 10000000000), .lit (.int .u64 100000000000), .lit (.int .u64 1000000000000), .lit (.int .u64 10000000000000), .lit (.int .u64 100000000000000), .lit (.int .u64 1000000000000000), .lit (.int .u64 10000000000000000), .lit (.int .u64 100000000000000000), .lit (.int .u64 1000000000000000000), .lit (.int .u64 10000000000000000000)]

/-- 'laws.FnExactFormatInt': WHATEVER THE INPUT: true; the input reads as it did. -/
def fnExactFormatIntSpec : ChangeSpec := { name := "fnExactFormatInt", fn := fun _ => fun
  | [d] => { results := [.lit (.bool true)], args := [d] }
  | _ => none }
def fnExactFormatIntRow : OpenClaim := { program := "ytlnkpjjmgkmofaadoor", sum := "bcb5ae4c83bd1e0fe77589c93e68df5c7e8ac841690bc92e735f56f5b0fdcb3d", func := "loop.example/g01926/laws.FnExactFormatInt", spec := "fnExactFormatInt", named := ["internal/strconv.uint64pow10", "math/bits.deBruijn32tab", "math/bits.deBruijn64tab"], apart := false, laid := [("math/bits.deBruijn32tab", laid_math_bits_deBruijn32tab), ("math/bits.deBruijn64tab", laid_math_bits_deBruijn64tab), ("internal/strconv.uint64pow10", laid_internal_strconv_uint64pow10)] }
def FnExactFormatIntSaid : Prop := fnExactFormatIntRow.holds Tryd.pinned (OpenSpec.ofChange fnExactFormatIntSpec)

/-- ITS FALSE NEIGHBOUR: 'it returns false'. Refute it at one input. -/
def fnExactFormatIntWrong : ChangeSpec := { name := "fnExactFormatInt", fn := fun _ => fun
  | [d] => { results := [.lit (.bool false)], args := [d] }
  | _ => none }
def FnExactFormatIntWrongFalsely : Prop := fnExactFormatIntRow.holds Tryd.pinned (OpenSpec.ofChange fnExactFormatIntWrong)

/-- 'laws.FnExactFormatResult': WHATEVER THE INPUT: true; the input reads as it did. -/
def fnExactFormatResultSpec : ChangeSpec := { name := "fnExactFormatResult", fn := fun _ => fun
  | [d] => { results := [.lit (.bool true)], args := [d] }
  | _ => none }
def fnExactFormatResultRow : OpenClaim := { program := "ytlnkpjjmgkmofaadoor", sum := "bcb5ae4c83bd1e0fe77589c93e68df5c7e8ac841690bc92e735f56f5b0fdcb3d", func := "loop.example/g01926/laws.FnExactFormatResult", spec := "fnExactFormatResult", named := ["internal/strconv.uint64pow10", "math/bits.deBruijn32tab", "math/bits.deBruijn64tab"], apart := false, laid := [("math/bits.deBruijn32tab", laid_math_bits_deBruijn32tab), ("math/bits.deBruijn64tab", laid_math_bits_deBruijn64tab), ("internal/strconv.uint64pow10", laid_internal_strconv_uint64pow10)] }
def FnExactFormatResultSaid : Prop := fnExactFormatResultRow.holds Tryd.pinned (OpenSpec.ofChange fnExactFormatResultSpec)

/-- ITS FALSE NEIGHBOUR: 'it returns false'. Refute it at one input. -/
def fnExactFormatResultWrong : ChangeSpec := { name := "fnExactFormatResult", fn := fun _ => fun
  | [d] => { results := [.lit (.bool false)], args := [d] }
  | _ => none }
def FnExactFormatResultWrongFalsely : Prop := fnExactFormatResultRow.holds Tryd.pinned (OpenSpec.ofChange fnExactFormatResultWrong)

/-- 'laws.FnExactParseInt': WHATEVER THE INPUT: true; the input reads as it did. -/
def fnExactParseIntSpec : ChangeSpec := { name := "fnExactParseInt", fn := fun _ => fun
  | [d] => { results := [.lit (.bool true)], args := [d] }
  | _ => none }
def fnExactParseIntRow : OpenClaim := { program := "ytlnkpjjmgkmofaadoor", sum := "bcb5ae4c83bd1e0fe77589c93e68df5c7e8ac841690bc92e735f56f5b0fdcb3d", func := "loop.example/g01926/laws.FnExactParseInt", spec := "fnExactParseInt", named := ["internal/strconv.uint64pow10", "math/bits.deBruijn32tab", "math/bits.deBruijn64tab"], apart := false, laid := [("math/bits.deBruijn32tab", laid_math_bits_deBruijn32tab), ("math/bits.deBruijn64tab", laid_math_bits_deBruijn64tab), ("internal/strconv.uint64pow10", laid_internal_strconv_uint64pow10)] }
def FnExactParseIntSaid : Prop := fnExactParseIntRow.holds Tryd.pinned (OpenSpec.ofChange fnExactParseIntSpec)

/-- ITS FALSE NEIGHBOUR: 'it returns false'. Refute it at one input. -/
def fnExactParseIntWrong : ChangeSpec := { name := "fnExactParseInt", fn := fun _ => fun
  | [d] => { results := [.lit (.bool false)], args := [d] }
  | _ => none }
def FnExactParseIntWrongFalsely : Prop := fnExactParseIntRow.holds Tryd.pinned (OpenSpec.ofChange fnExactParseIntWrong)

/-- 'laws.FnExactFormatOp': WHATEVER THE INPUT: true; the input reads as it did. -/
def fnExactFormatOpSpec : ChangeSpec := { name := "fnExactFormatOp", fn := fun _ => fun
  | [d] => { results := [.lit (.bool true)], args := [d] }
  | _ => none }
def fnExactFormatOpRow : OpenClaim := { program := "ytlnkpjjmgkmofaadoor", sum := "bcb5ae4c83bd1e0fe77589c93e68df5c7e8ac841690bc92e735f56f5b0fdcb3d", func := "loop.example/g01926/laws.FnExactFormatOp", spec := "fnExactFormatOp", named := ["internal/strconv.uint64pow10", "math/bits.deBruijn32tab", "math/bits.deBruijn64tab"], apart := false, laid := [("math/bits.deBruijn32tab", laid_math_bits_deBruijn32tab), ("math/bits.deBruijn64tab", laid_math_bits_deBruijn64tab), ("internal/strconv.uint64pow10", laid_internal_strconv_uint64pow10)] }
def FnExactFormatOpSaid : Prop := fnExactFormatOpRow.holds Tryd.pinned (OpenSpec.ofChange fnExactFormatOpSpec)

/-- ITS FALSE NEIGHBOUR: 'it returns false'. Refute it at one input. -/
def fnExactFormatOpWrong : ChangeSpec := { name := "fnExactFormatOp", fn := fun _ => fun
  | [d] => { results := [.lit (.bool false)], args := [d] }
  | _ => none }
def FnExactFormatOpWrongFalsely : Prop := fnExactFormatOpRow.holds Tryd.pinned (OpenSpec.ofChange fnExactFormatOpWrong)

/-- 'laws.FnExactFormatServers': WHATEVER THE INPUT: true; the input reads as it did. -/
def fnExactFormatServersSpec : ChangeSpec := { name := "fnExactFormatServers", fn := fun _ => fun
  | [d] => { results := [.lit (.bool true)], args := [d] }
  | _ => none }
def fnExactFormatServersRow : OpenClaim := { program := "ytlnkpjjmgkmofaadoor", sum := "bcb5ae4c83bd1e0fe77589c93e68df5c7e8ac841690bc92e735f56f5b0fdcb3d", func := "loop.example/g01926/laws.FnExactFormatServers", spec := "fnExactFormatServers", named := ["internal/strconv.uint64pow10", "math/bits.deBruijn32tab", "math/bits.deBruijn64tab"], apart := false, laid := [("math/bits.deBruijn32tab", laid_math_bits_deBruijn32tab), ("math/bits.deBruijn64tab", laid_math_bits_deBruijn64tab), ("internal/strconv.uint64pow10", laid_internal_strconv_uint64pow10)] }
def FnExactFormatServersSaid : Prop := fnExactFormatServersRow.holds Tryd.pinned (OpenSpec.ofChange fnExactFormatServersSpec)

/-- ITS FALSE NEIGHBOUR: 'it returns false'. Refute it at one input. -/
def fnExactFormatServersWrong : ChangeSpec := { name := "fnExactFormatServers", fn := fun _ => fun
  | [d] => { results := [.lit (.bool false)], args := [d] }
  | _ => none }
def FnExactFormatServersWrongFalsely : Prop := fnExactFormatServersRow.holds Tryd.pinned (OpenSpec.ofChange fnExactFormatServersWrong)

/-- 'laws.FnExactParseServers': WHATEVER THE INPUT: true; the input reads as it did. -/
def fnExactParseServersSpec : ChangeSpec := { name := "fnExactParseServers", fn := fun _ => fun
  | [d] => { results := [.lit (.bool true)], args := [d] }
  | _ => none }
def fnExactParseServersRow : OpenClaim := { program := "ytlnkpjjmgkmofaadoor", sum := "bcb5ae4c83bd1e0fe77589c93e68df5c7e8ac841690bc92e735f56f5b0fdcb3d", func := "loop.example/g01926/laws.FnExactParseServers", spec := "fnExactParseServers", named := ["internal/strconv.uint64pow10", "math/bits.deBruijn32tab", "math/bits.deBruijn64tab"], apart := false, laid := [("math/bits.deBruijn32tab", laid_math_bits_deBruijn32tab), ("math/bits.deBruijn64tab", laid_math_bits_deBruijn64tab), ("internal/strconv.uint64pow10", laid_internal_strconv_uint64pow10)] }
def FnExactParseServersSaid : Prop := fnExactParseServersRow.holds Tryd.pinned (OpenSpec.ofChange fnExactParseServersSpec)

/-- ITS FALSE NEIGHBOUR: 'it returns false'. Refute it at one input. -/
def fnExactParseServersWrong : ChangeSpec := { name := "fnExactParseServers", fn := fun _ => fun
  | [d] => { results := [.lit (.bool false)], args := [d] }
  | _ => none }
def FnExactParseServersWrongFalsely : Prop := fnExactParseServersRow.holds Tryd.pinned (OpenSpec.ofChange fnExactParseServersWrong)

/-- 'laws.FnExactFormatMachine': WHATEVER THE INPUT: true; the input reads as it did. -/
def fnExactFormatMachineSpec : ChangeSpec := { name := "fnExactFormatMachine", fn := fun _ => fun
  | [d] => { results := [.lit (.bool true)], args := [d] }
  | _ => none }
def fnExactFormatMachineRow : OpenClaim := { program := "ytlnkpjjmgkmofaadoor", sum := "bcb5ae4c83bd1e0fe77589c93e68df5c7e8ac841690bc92e735f56f5b0fdcb3d", func := "loop.example/g01926/laws.FnExactFormatMachine", spec := "fnExactFormatMachine", unfollowed := true, recurses := true, named := ["internal/strconv.uint64pow10", "math/bits.deBruijn32tab", "math/bits.deBruijn64tab"], apart := false, laid := [("math/bits.deBruijn32tab", laid_math_bits_deBruijn32tab), ("math/bits.deBruijn64tab", laid_math_bits_deBruijn64tab), ("internal/strconv.uint64pow10", laid_internal_strconv_uint64pow10)] }
def FnExactFormatMachineSaid : Prop := fnExactFormatMachineRow.holds Tryd.pinned (OpenSpec.ofChange fnExactFormatMachineSpec)

/-- ITS FALSE NEIGHBOUR: 'it returns false'. Refute it at one input. -/
def fnExactFormatMachineWrong : ChangeSpec := { name := "fnExactFormatMachine", fn := fun _ => fun
  | [d] => { results := [.lit (.bool false)], args := [d] }
  | _ => none }
def FnExactFormatMachineWrongFalsely : Prop := fnExactFormatMachineRow.holds Tryd.pinned (OpenSpec.ofChange fnExactFormatMachineWrong)

/-- 'laws.FnExactFormatLog': WHATEVER THE INPUT: true; the input reads as it did. -/
def fnExactFormatLogSpec : ChangeSpec := { name := "fnExactFormatLog", fn := fun _ => fun
  | [d] => { results := [.lit (.bool true)], args := [d] }
  | _ => none }
def fnExactFormatLogRow : OpenClaim := { program := "ytlnkpjjmgkmofaadoor", sum := "bcb5ae4c83bd1e0fe77589c93e68df5c7e8ac841690bc92e735f56f5b0fdcb3d", func := "loop.example/g01926/laws.FnExactFormatLog", spec := "fnExactFormatLog", inPlace := ["internal/abi.NoEscape", "internal/bytealg.MakeNoZero"], named := ["internal/strconv.uint64pow10", "math/bits.deBruijn32tab", "math/bits.deBruijn64tab"], apart := false, laid := [("math/bits.deBruijn32tab", laid_math_bits_deBruijn32tab), ("math/bits.deBruijn64tab", laid_math_bits_deBruijn64tab), ("internal/strconv.uint64pow10", laid_internal_strconv_uint64pow10)] }
def FnExactFormatLogSaid : Prop := fnExactFormatLogRow.holds Tryd.pinned (OpenSpec.ofChange fnExactFormatLogSpec)

/-- ITS FALSE NEIGHBOUR: 'it returns false'. Refute it at one input. -/
def fnExactFormatLogWrong : ChangeSpec := { name := "fnExactFormatLog", fn := fun _ => fun
  | [d] => { results := [.lit (.bool false)], args := [d] }
  | _ => none }
def FnExactFormatLogWrongFalsely : Prop := fnExactFormatLogRow.holds Tryd.pinned (OpenSpec.ofChange fnExactFormatLogWrong)

/-- 'laws.FnExactSnapshotText': WHATEVER THE INPUT: true; the input reads as it did. -/
def fnExactSnapshotTextSpec : ChangeSpec := { name := "fnExactSnapshotText", fn := fun _ => fun
  | [d] => { results := [.lit (.bool true)], args := [d] }
  | _ => none }
def fnExactSnapshotTextRow : OpenClaim := { program := "ytlnkpjjmgkmofaadoor", sum := "bcb5ae4c83bd1e0fe77589c93e68df5c7e8ac841690bc92e735f56f5b0fdcb3d", func := "loop.example/g01926/laws.FnExactSnapshotText", spec := "fnExactSnapshotText", unfollowed := true, recurses := true, named := ["internal/strconv.uint64pow10", "math/bits.deBruijn32tab", "math/bits.deBruijn64tab"], apart := false, laid := [("math/bits.deBruijn32tab", laid_math_bits_deBruijn32tab), ("math/bits.deBruijn64tab", laid_math_bits_deBruijn64tab), ("internal/strconv.uint64pow10", laid_internal_strconv_uint64pow10)] }
def FnExactSnapshotTextSaid : Prop := fnExactSnapshotTextRow.holds Tryd.pinned (OpenSpec.ofChange fnExactSnapshotTextSpec)

/-- ITS FALSE NEIGHBOUR: 'it returns false'. Refute it at one input. -/
def fnExactSnapshotTextWrong : ChangeSpec := { name := "fnExactSnapshotText", fn := fun _ => fun
  | [d] => { results := [.lit (.bool false)], args := [d] }
  | _ => none }
def FnExactSnapshotTextWrongFalsely : Prop := fnExactSnapshotTextRow.holds Tryd.pinned (OpenSpec.ofChange fnExactSnapshotTextWrong)

/-- 'laws.FnIntegerEncodings': WHATEVER THE INPUT: true; the input reads as it did. -/
def fnIntegerEncodingsSpec : ChangeSpec := { name := "fnIntegerEncodings", fn := fun _ => fun
  | [d] => { results := [.lit (.bool true)], args := [d] }
  | _ => none }
def fnIntegerEncodingsRow : OpenClaim := { program := "ytlnkpjjmgkmofaadoor", sum := "bcb5ae4c83bd1e0fe77589c93e68df5c7e8ac841690bc92e735f56f5b0fdcb3d", func := "loop.example/g01926/laws.FnIntegerEncodings", spec := "fnIntegerEncodings", named := ["internal/strconv.uint64pow10", "math/bits.deBruijn32tab", "math/bits.deBruijn64tab"], apart := false, laid := [("math/bits.deBruijn32tab", laid_math_bits_deBruijn32tab), ("math/bits.deBruijn64tab", laid_math_bits_deBruijn64tab), ("internal/strconv.uint64pow10", laid_internal_strconv_uint64pow10)] }
def FnIntegerEncodingsSaid : Prop := fnIntegerEncodingsRow.holds Tryd.pinned (OpenSpec.ofChange fnIntegerEncodingsSpec)

/-- ITS FALSE NEIGHBOUR: 'it returns false'. Refute it at one input. -/
def fnIntegerEncodingsWrong : ChangeSpec := { name := "fnIntegerEncodings", fn := fun _ => fun
  | [d] => { results := [.lit (.bool false)], args := [d] }
  | _ => none }
def FnIntegerEncodingsWrongFalsely : Prop := fnIntegerEncodingsRow.holds Tryd.pinned (OpenSpec.ofChange fnIntegerEncodingsWrong)

/- THE SECOND FORM. 'bulk': how many values and letters a reading holds, each counted each time it is reached (what is shared counts as often as it is met; a slice's spare places count too). A statement '..UptoSaid' is the law's where the arguments, and the package variables that the reading takes, are together of bulk at most 1048576: NARROWER than '..Said'. Prove '..Said' where nothing that the law and all that it calls make is longer than what came in: it says more and counts as full. Else prove '..UptoSaid'. A law counts once. -/
mutual
def uptoBulk {H : Type} : DataW H → Nat
  | .lit (.string bytes) => bytes.length + 1
  | .lit _ => 1
  | .nil => 1
  | .ptr d => uptoBulk d + 1
  | .slice elems spare => uptoBulkAll elems + uptoBulkAll spare + 1
  | .agg parts => uptoBulkAll parts + 1
  | .iface _ d => uptoBulk d + 1
  | .map entries => uptoBulkEntries entries + 1
  | .held _ => 1
def uptoBulkAll {H : Type} : List (DataW H) → Nat
  | [] => 0
  | d :: r => uptoBulk d + uptoBulkAll r
def uptoBulkEntries {H : Type} : List (Lit × DataW H) → Nat
  | [] => 0
  | x :: r => uptoBulkEntry x + uptoBulkEntries r
def uptoBulkEntry {H : Type} : Lit × DataW H → Nat
  | (.string bytes, d) => bytes.length + uptoBulk d + 1
  | (_, d) => uptoBulk d + 1
 end
def uptoSmall : (H : Type) → List (DataW H) → Bool := fun _ ds => decide (uptoBulkAll ds ≤ 1048576)
def OpenSpec.upto (s : _root_.Go.ChangeSpec) : _root_.Go.OpenSpec := { _root_.Go.OpenSpec.ofChange s with cond := some uptoSmall }

/-- 'laws.FnExactFormatInt', WHERE WHAT IT READS IS OF BULK AT MOST 1048576: true; the input reads as it did. -/
def fnExactFormatIntUptoRow : OpenClaim := { program := "ytlnkpjjmgkmofaadoor", sum := "bcb5ae4c83bd1e0fe77589c93e68df5c7e8ac841690bc92e735f56f5b0fdcb3d", func := "loop.example/g01926/laws.FnExactFormatInt", spec := "fnExactFormatInt", named := ["internal/strconv.uint64pow10", "math/bits.deBruijn32tab", "math/bits.deBruijn64tab"], apart := false, laid := [("math/bits.deBruijn32tab", laid_math_bits_deBruijn32tab), ("math/bits.deBruijn64tab", laid_math_bits_deBruijn64tab), ("internal/strconv.uint64pow10", laid_internal_strconv_uint64pow10)], narrowed := true }
def FnExactFormatIntUptoSaid : Prop := fnExactFormatIntUptoRow.holds Tryd.pinned (OpenSpec.upto fnExactFormatIntSpec)

/-- 'laws.FnExactFormatResult', WHERE WHAT IT READS IS OF BULK AT MOST 1048576: true; the input reads as it did. -/
def fnExactFormatResultUptoRow : OpenClaim := { program := "ytlnkpjjmgkmofaadoor", sum := "bcb5ae4c83bd1e0fe77589c93e68df5c7e8ac841690bc92e735f56f5b0fdcb3d", func := "loop.example/g01926/laws.FnExactFormatResult", spec := "fnExactFormatResult", named := ["internal/strconv.uint64pow10", "math/bits.deBruijn32tab", "math/bits.deBruijn64tab"], apart := false, laid := [("math/bits.deBruijn32tab", laid_math_bits_deBruijn32tab), ("math/bits.deBruijn64tab", laid_math_bits_deBruijn64tab), ("internal/strconv.uint64pow10", laid_internal_strconv_uint64pow10)], narrowed := true }
def FnExactFormatResultUptoSaid : Prop := fnExactFormatResultUptoRow.holds Tryd.pinned (OpenSpec.upto fnExactFormatResultSpec)

/-- 'laws.FnExactParseInt', WHERE WHAT IT READS IS OF BULK AT MOST 1048576: true; the input reads as it did. -/
def fnExactParseIntUptoRow : OpenClaim := { program := "ytlnkpjjmgkmofaadoor", sum := "bcb5ae4c83bd1e0fe77589c93e68df5c7e8ac841690bc92e735f56f5b0fdcb3d", func := "loop.example/g01926/laws.FnExactParseInt", spec := "fnExactParseInt", named := ["internal/strconv.uint64pow10", "math/bits.deBruijn32tab", "math/bits.deBruijn64tab"], apart := false, laid := [("math/bits.deBruijn32tab", laid_math_bits_deBruijn32tab), ("math/bits.deBruijn64tab", laid_math_bits_deBruijn64tab), ("internal/strconv.uint64pow10", laid_internal_strconv_uint64pow10)], narrowed := true }
def FnExactParseIntUptoSaid : Prop := fnExactParseIntUptoRow.holds Tryd.pinned (OpenSpec.upto fnExactParseIntSpec)

/-- 'laws.FnExactFormatOp', WHERE WHAT IT READS IS OF BULK AT MOST 1048576: true; the input reads as it did. -/
def fnExactFormatOpUptoRow : OpenClaim := { program := "ytlnkpjjmgkmofaadoor", sum := "bcb5ae4c83bd1e0fe77589c93e68df5c7e8ac841690bc92e735f56f5b0fdcb3d", func := "loop.example/g01926/laws.FnExactFormatOp", spec := "fnExactFormatOp", named := ["internal/strconv.uint64pow10", "math/bits.deBruijn32tab", "math/bits.deBruijn64tab"], apart := false, laid := [("math/bits.deBruijn32tab", laid_math_bits_deBruijn32tab), ("math/bits.deBruijn64tab", laid_math_bits_deBruijn64tab), ("internal/strconv.uint64pow10", laid_internal_strconv_uint64pow10)], narrowed := true }
def FnExactFormatOpUptoSaid : Prop := fnExactFormatOpUptoRow.holds Tryd.pinned (OpenSpec.upto fnExactFormatOpSpec)

/-- 'laws.FnExactFormatServers', WHERE WHAT IT READS IS OF BULK AT MOST 1048576: true; the input reads as it did. -/
def fnExactFormatServersUptoRow : OpenClaim := { program := "ytlnkpjjmgkmofaadoor", sum := "bcb5ae4c83bd1e0fe77589c93e68df5c7e8ac841690bc92e735f56f5b0fdcb3d", func := "loop.example/g01926/laws.FnExactFormatServers", spec := "fnExactFormatServers", named := ["internal/strconv.uint64pow10", "math/bits.deBruijn32tab", "math/bits.deBruijn64tab"], apart := false, laid := [("math/bits.deBruijn32tab", laid_math_bits_deBruijn32tab), ("math/bits.deBruijn64tab", laid_math_bits_deBruijn64tab), ("internal/strconv.uint64pow10", laid_internal_strconv_uint64pow10)], narrowed := true }
def FnExactFormatServersUptoSaid : Prop := fnExactFormatServersUptoRow.holds Tryd.pinned (OpenSpec.upto fnExactFormatServersSpec)

/-- 'laws.FnExactParseServers', WHERE WHAT IT READS IS OF BULK AT MOST 1048576: true; the input reads as it did. -/
def fnExactParseServersUptoRow : OpenClaim := { program := "ytlnkpjjmgkmofaadoor", sum := "bcb5ae4c83bd1e0fe77589c93e68df5c7e8ac841690bc92e735f56f5b0fdcb3d", func := "loop.example/g01926/laws.FnExactParseServers", spec := "fnExactParseServers", named := ["internal/strconv.uint64pow10", "math/bits.deBruijn32tab", "math/bits.deBruijn64tab"], apart := false, laid := [("math/bits.deBruijn32tab", laid_math_bits_deBruijn32tab), ("math/bits.deBruijn64tab", laid_math_bits_deBruijn64tab), ("internal/strconv.uint64pow10", laid_internal_strconv_uint64pow10)], narrowed := true }
def FnExactParseServersUptoSaid : Prop := fnExactParseServersUptoRow.holds Tryd.pinned (OpenSpec.upto fnExactParseServersSpec)

/-- 'laws.FnExactFormatMachine', WHERE WHAT IT READS IS OF BULK AT MOST 1048576: true; the input reads as it did. -/
def fnExactFormatMachineUptoRow : OpenClaim := { program := "ytlnkpjjmgkmofaadoor", sum := "bcb5ae4c83bd1e0fe77589c93e68df5c7e8ac841690bc92e735f56f5b0fdcb3d", func := "loop.example/g01926/laws.FnExactFormatMachine", spec := "fnExactFormatMachine", unfollowed := true, recurses := true, named := ["internal/strconv.uint64pow10", "math/bits.deBruijn32tab", "math/bits.deBruijn64tab"], apart := false, laid := [("math/bits.deBruijn32tab", laid_math_bits_deBruijn32tab), ("math/bits.deBruijn64tab", laid_math_bits_deBruijn64tab), ("internal/strconv.uint64pow10", laid_internal_strconv_uint64pow10)], narrowed := true }
def FnExactFormatMachineUptoSaid : Prop := fnExactFormatMachineUptoRow.holds Tryd.pinned (OpenSpec.upto fnExactFormatMachineSpec)

/-- 'laws.FnExactFormatLog', WHERE WHAT IT READS IS OF BULK AT MOST 1048576: true; the input reads as it did. -/
def fnExactFormatLogUptoRow : OpenClaim := { program := "ytlnkpjjmgkmofaadoor", sum := "bcb5ae4c83bd1e0fe77589c93e68df5c7e8ac841690bc92e735f56f5b0fdcb3d", func := "loop.example/g01926/laws.FnExactFormatLog", spec := "fnExactFormatLog", inPlace := ["internal/abi.NoEscape", "internal/bytealg.MakeNoZero"], named := ["internal/strconv.uint64pow10", "math/bits.deBruijn32tab", "math/bits.deBruijn64tab"], apart := false, laid := [("math/bits.deBruijn32tab", laid_math_bits_deBruijn32tab), ("math/bits.deBruijn64tab", laid_math_bits_deBruijn64tab), ("internal/strconv.uint64pow10", laid_internal_strconv_uint64pow10)], narrowed := true }
def FnExactFormatLogUptoSaid : Prop := fnExactFormatLogUptoRow.holds Tryd.pinned (OpenSpec.upto fnExactFormatLogSpec)

/-- 'laws.FnExactSnapshotText', WHERE WHAT IT READS IS OF BULK AT MOST 1048576: true; the input reads as it did. -/
def fnExactSnapshotTextUptoRow : OpenClaim := { program := "ytlnkpjjmgkmofaadoor", sum := "bcb5ae4c83bd1e0fe77589c93e68df5c7e8ac841690bc92e735f56f5b0fdcb3d", func := "loop.example/g01926/laws.FnExactSnapshotText", spec := "fnExactSnapshotText", unfollowed := true, recurses := true, named := ["internal/strconv.uint64pow10", "math/bits.deBruijn32tab", "math/bits.deBruijn64tab"], apart := false, laid := [("math/bits.deBruijn32tab", laid_math_bits_deBruijn32tab), ("math/bits.deBruijn64tab", laid_math_bits_deBruijn64tab), ("internal/strconv.uint64pow10", laid_internal_strconv_uint64pow10)], narrowed := true }
def FnExactSnapshotTextUptoSaid : Prop := fnExactSnapshotTextUptoRow.holds Tryd.pinned (OpenSpec.upto fnExactSnapshotTextSpec)

/-- 'laws.FnIntegerEncodings', WHERE WHAT IT READS IS OF BULK AT MOST 1048576: true; the input reads as it did. -/
def fnIntegerEncodingsUptoRow : OpenClaim := { program := "ytlnkpjjmgkmofaadoor", sum := "bcb5ae4c83bd1e0fe77589c93e68df5c7e8ac841690bc92e735f56f5b0fdcb3d", func := "loop.example/g01926/laws.FnIntegerEncodings", spec := "fnIntegerEncodings", named := ["internal/strconv.uint64pow10", "math/bits.deBruijn32tab", "math/bits.deBruijn64tab"], apart := false, laid := [("math/bits.deBruijn32tab", laid_math_bits_deBruijn32tab), ("math/bits.deBruijn64tab", laid_math_bits_deBruijn64tab), ("internal/strconv.uint64pow10", laid_internal_strconv_uint64pow10)], narrowed := true }
def FnIntegerEncodingsUptoSaid : Prop := fnIntegerEncodingsUptoRow.holds Tryd.pinned (OpenSpec.upto fnIntegerEncodingsSpec)

end Rows
end Go.Proofs.YtlnkpjjmgkmofaaDoor
