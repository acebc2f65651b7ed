/- Go functions as Lean functions, and the proof that the code comes to them: written by a program of this session out of the translation. -/
import Derived.Test.YtnibkllpodpokaaDoorProg
import Derived.Below
import Derived.Deep.Draws
import Derived.Deep.AppendLies
import Derived.Maps.AppendAt
import Derived.OwnWalk
import Derived.Laws.BytesArg
import Derived.Laws.MakeOwn
import Derived.Laws.OwnMore
import Derived.Deep.OwnRows
import Derived.Tactics
import Derived.Lib.ConvBytes
import Derived.Laws.Slices
import Derived.WalkKit
import Derived.KernelRfl
import Derived.RowKit3
import Derived.Deep.LoopGhost
import Derived.Deep.QuietTactic
import Derived.BigQuiet
import Derived.WideLaws
import Derived.Deep.DeepCutAuto
import Derived.Deep.CutBlock
import Derived.Deep.RegionHeld3
import Derived.Laws.Rows
import Derived.Lib.AppendStr
import Derived.ArgAppend
import Derived.Laws.IdiomCopy
import Derived.OrdersHeld
import Derived.Laws.BitsLemmas
import Derived.RowKit
import Derived.Test.YtnibkllpodpokaaDoorGiven
import Derived.Test.YtnibkllpodpokaaDoorWWords
import Derived.Test.YtnibkllpodpokaaDoorWLast
import Derived.Test.YtnibkllpodpokaaDoorWTab
import Derived.Test.YtnibkllpodpokaaDoorWFour
import Derived.Test.YtnibkllpodpokaaDoorWQPut
import Derived.Test.YtnibkllpodpokaaDoorWApart
import Derived.Test.YtnibkllpodpokaaDoorWArr
import Derived.Test.YtnibkllpodpokaaDoorWZeros
import Derived.Test.YtnibkllpodpokaaDoorWFoot
import Derived.Test.YtnibkllpodpokaaDoorWKept
import Derived.Test.YtnibkllpodpokaaDoorWShare
import Derived.Test.YtnibkllpodpokaaDoorWN
import Derived.Test.YtnibkllpodpokaaDoorWFootNe
import Derived.Test.YtnibkllpodpokaaDoorWAt
import Derived.Test.YtnibkllpodpokaaDoorWEqStruct
import Derived.Test.YtnibkllpodpokaaDoorWRepsOne
import Derived.Test.YtnibkllpodpokaaDoorWInv
import Derived.Test.YtnibkllpodpokaaDoorWInvWords
import Derived.Test.YtnibkllpodpokaaDoorWGuard
import Derived.Test.YtnibkllpodpokaaDoorWNEv
import Derived.Test.YtnibkllpodpokaaDoorWMore
namespace Go.Proofs.YtnibkllpodpokaaDoor.B
open Go.Proofs.YtnibkllpodpokaaDoor.Given
open Go.RowKit Go.Proofs.YtnibkllpodpokaaDoorW.PrintWords Go.Proofs.YtnibkllpodpokaaDoorW.PrintLast Go.Proofs.YtnibkllpodpokaaDoorW.PrintMore
attribute [local go_sem] max2_int min2_int max_two min_two max_three min_three max_four min_four   -- for this text's walks alone
set_option linter.unusedVariables false
set_option linter.unusedSimpArgs false



def errW : Option Int → Value
  | none => .nilIface
  | some c => .iface 0 (.int .i64 c)
theorem errW_none : errW none = .nilIface := rfl
theorem errW_some (c : Int) : errW (some c) = .iface 0 (.int .i64 c) := rfl

theorem info5 : (Tryd.prog.info? 5).map (fun i => (i.zero, i.size, i.bytes)) = some (some (.int .u8 0), 1, 1) := by kernel_rfl
theorem info9 : (Tryd.prog.info? 9).map (fun i => (i.zero, i.size, i.bytes)) = some (some (.string ⟨#[]⟩), 1, 16) := by kernel_rfl
-- the values' own types

end Go.Proofs.YtnibkllpodpokaaDoor.B
