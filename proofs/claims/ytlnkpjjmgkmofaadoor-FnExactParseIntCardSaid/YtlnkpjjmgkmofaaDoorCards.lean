/-
  DERIVED. GIVEN WITH THE SEED: THE CARDS: each row of YtlnkpjjmgkmofaaDoorRows.lean that lists a variable, with what it lists TIED to the program's text (the seventh form; the later family's looks); each row that meets fmt, with fmt's text TOLD by the authors' own Lean function (tested against real Go, not proved from fmt's source: count such statements apart). THE CARD IS WHAT COUNTS. Prove the row's statement (the work); the ties are given (YtlnkpjjmgkmofaaDoorTie.lean); close each card by the builder's one call (the guide's Derived/Test/ToyasCard.lean, 'card_holds'). Laid BY PROGRAM, IN A SANDBOX (cutbox-door.mjs). By AI agents, Wed Nov 11 2026. No macro, syntax, notation, axiom, sorry.
-/
import Derived.Test.YtlnkpjjmgkmofaaDoorRows
import GoSem.ClaimSeven
namespace Go.Proofs.YtlnkpjjmgkmofaaDoor
namespace Rows

/-- THE TIED CARD OF 'laws.FnExactFormatInt'. -/
def fnExactFormatIntCard : Claim7 := { stood := { row := fnExactFormatIntRow, standIns := [], harness := (true, "0673aa8a0cac7672f7e15188d04d1fc8c182b145c66b718fcd0a3fb95064d57e"), looks := false }, kinds := [], alts := [], laidByText := true, laidKinds := [.data, .data, .data], laidTests := true, laidLooks := .later }
def FnExactFormatIntCardSaid : Prop := Claim7.holds Tryd.pinned (.plain (OpenSpec.ofChange fnExactFormatIntSpec)) fnExactFormatIntCard

/-- THE TIED CARD OF 'laws.FnExactFormatResult'. -/
def fnExactFormatResultCard : Claim7 := { stood := { row := fnExactFormatResultRow, standIns := [], harness := (true, "0673aa8a0cac7672f7e15188d04d1fc8c182b145c66b718fcd0a3fb95064d57e"), looks := false }, kinds := [], alts := [], laidByText := true, laidKinds := [.data, .data, .data], laidTests := true, laidLooks := .later }
def FnExactFormatResultCardSaid : Prop := Claim7.holds Tryd.pinned (.plain (OpenSpec.ofChange fnExactFormatResultSpec)) fnExactFormatResultCard

/-- THE TIED CARD OF 'laws.FnExactParseInt'. -/
def fnExactParseIntCard : Claim7 := { stood := { row := fnExactParseIntRow, standIns := [], harness := (true, "0673aa8a0cac7672f7e15188d04d1fc8c182b145c66b718fcd0a3fb95064d57e"), looks := false }, kinds := [], alts := [], laidByText := true, laidKinds := [.data, .data, .data], laidTests := true, laidLooks := .later }
def FnExactParseIntCardSaid : Prop := Claim7.holds Tryd.pinned (.plain (OpenSpec.ofChange fnExactParseIntSpec)) fnExactParseIntCard

/-- THE TIED CARD OF 'laws.FnExactFormatOp'. -/
def fnExactFormatOpCard : Claim7 := { stood := { row := fnExactFormatOpRow, standIns := [], harness := (true, "0673aa8a0cac7672f7e15188d04d1fc8c182b145c66b718fcd0a3fb95064d57e"), looks := false }, kinds := [], alts := [], laidByText := true, laidKinds := [.data, .data, .data], laidTests := true, laidLooks := .later }
def FnExactFormatOpCardSaid : Prop := Claim7.holds Tryd.pinned (.plain (OpenSpec.ofChange fnExactFormatOpSpec)) fnExactFormatOpCard

/-- THE TIED CARD OF 'laws.FnExactFormatServers'. -/
def fnExactFormatServersCard : Claim7 := { stood := { row := fnExactFormatServersRow, standIns := [], harness := (true, "0673aa8a0cac7672f7e15188d04d1fc8c182b145c66b718fcd0a3fb95064d57e"), looks := false }, kinds := [], alts := [], laidByText := true, laidKinds := [.data, .data, .data], laidTests := true, laidLooks := .later }
def FnExactFormatServersCardSaid : Prop := Claim7.holds Tryd.pinned (.plain (OpenSpec.ofChange fnExactFormatServersSpec)) fnExactFormatServersCard

/-- THE TIED CARD OF 'laws.FnExactParseServers'. -/
def fnExactParseServersCard : Claim7 := { stood := { row := fnExactParseServersRow, standIns := [], harness := (true, "0673aa8a0cac7672f7e15188d04d1fc8c182b145c66b718fcd0a3fb95064d57e"), looks := false }, kinds := [], alts := [], laidByText := true, laidKinds := [.data, .data, .data], laidTests := true, laidLooks := .later }
def FnExactParseServersCardSaid : Prop := Claim7.holds Tryd.pinned (.plain (OpenSpec.ofChange fnExactParseServersSpec)) fnExactParseServersCard

/-- THE TIED CARD OF 'laws.FnExactFormatMachine'. -/
def fnExactFormatMachineCard : Claim7 := { stood := { row := fnExactFormatMachineRow, standIns := [], harness := (true, "0673aa8a0cac7672f7e15188d04d1fc8c182b145c66b718fcd0a3fb95064d57e"), looks := false }, kinds := [], alts := [], laidByText := true, laidKinds := [.data, .data, .data], laidTests := true, laidLooks := .later }
def FnExactFormatMachineCardSaid : Prop := Claim7.holds Tryd.pinned (.plain (OpenSpec.ofChange fnExactFormatMachineSpec)) fnExactFormatMachineCard

/-- THE TIED CARD OF 'laws.FnExactFormatLog'. -/
def fnExactFormatLogCard : Claim7 := { stood := { row := fnExactFormatLogRow, standIns := [], harness := (true, "0673aa8a0cac7672f7e15188d04d1fc8c182b145c66b718fcd0a3fb95064d57e"), looks := false }, kinds := [], alts := [], laidByText := true, laidKinds := [.data, .data, .data], laidTests := true, laidLooks := .later }
def FnExactFormatLogCardSaid : Prop := Claim7.holds Tryd.pinned (.plain (OpenSpec.ofChange fnExactFormatLogSpec)) fnExactFormatLogCard

/-- THE TIED CARD OF 'laws.FnExactSnapshotText'. -/
def fnExactSnapshotTextCard : Claim7 := { stood := { row := fnExactSnapshotTextRow, standIns := [], harness := (true, "0673aa8a0cac7672f7e15188d04d1fc8c182b145c66b718fcd0a3fb95064d57e"), looks := false }, kinds := [], alts := [], laidByText := true, laidKinds := [.data, .data, .data], laidTests := true, laidLooks := .later }
def FnExactSnapshotTextCardSaid : Prop := Claim7.holds Tryd.pinned (.plain (OpenSpec.ofChange fnExactSnapshotTextSpec)) fnExactSnapshotTextCard

/-- THE TIED CARD OF 'laws.FnIntegerEncodings'. -/
def fnIntegerEncodingsCard : Claim7 := { stood := { row := fnIntegerEncodingsRow, standIns := [], harness := (true, "0673aa8a0cac7672f7e15188d04d1fc8c182b145c66b718fcd0a3fb95064d57e"), looks := false }, kinds := [], alts := [], laidByText := true, laidKinds := [.data, .data, .data], laidTests := true, laidLooks := .later }
def FnIntegerEncodingsCardSaid : Prop := Claim7.holds Tryd.pinned (.plain (OpenSpec.ofChange fnIntegerEncodingsSpec)) fnIntegerEncodingsCard

/-- THE SECOND FORM's CARD OF 'laws.FnExactFormatInt'. -/
def fnExactFormatIntUptoCard : Claim7 := { stood := { row := fnExactFormatIntUptoRow, standIns := [], harness := (true, "0673aa8a0cac7672f7e15188d04d1fc8c182b145c66b718fcd0a3fb95064d57e"), looks := false }, kinds := [], alts := [], laidByText := true, laidKinds := [.data, .data, .data], laidTests := true, laidLooks := .later }
def FnExactFormatIntUptoCardSaid : Prop := Claim7.holds Tryd.pinned (.plain (OpenSpec.upto fnExactFormatIntSpec)) fnExactFormatIntUptoCard

/-- THE SECOND FORM's CARD OF 'laws.FnExactFormatResult'. -/
def fnExactFormatResultUptoCard : Claim7 := { stood := { row := fnExactFormatResultUptoRow, standIns := [], harness := (true, "0673aa8a0cac7672f7e15188d04d1fc8c182b145c66b718fcd0a3fb95064d57e"), looks := false }, kinds := [], alts := [], laidByText := true, laidKinds := [.data, .data, .data], laidTests := true, laidLooks := .later }
def FnExactFormatResultUptoCardSaid : Prop := Claim7.holds Tryd.pinned (.plain (OpenSpec.upto fnExactFormatResultSpec)) fnExactFormatResultUptoCard

/-- THE SECOND FORM's CARD OF 'laws.FnExactParseInt'. -/
def fnExactParseIntUptoCard : Claim7 := { stood := { row := fnExactParseIntUptoRow, standIns := [], harness := (true, "0673aa8a0cac7672f7e15188d04d1fc8c182b145c66b718fcd0a3fb95064d57e"), looks := false }, kinds := [], alts := [], laidByText := true, laidKinds := [.data, .data, .data], laidTests := true, laidLooks := .later }
def FnExactParseIntUptoCardSaid : Prop := Claim7.holds Tryd.pinned (.plain (OpenSpec.upto fnExactParseIntSpec)) fnExactParseIntUptoCard

/-- THE SECOND FORM's CARD OF 'laws.FnExactFormatOp'. -/
def fnExactFormatOpUptoCard : Claim7 := { stood := { row := fnExactFormatOpUptoRow, standIns := [], harness := (true, "0673aa8a0cac7672f7e15188d04d1fc8c182b145c66b718fcd0a3fb95064d57e"), looks := false }, kinds := [], alts := [], laidByText := true, laidKinds := [.data, .data, .data], laidTests := true, laidLooks := .later }
def FnExactFormatOpUptoCardSaid : Prop := Claim7.holds Tryd.pinned (.plain (OpenSpec.upto fnExactFormatOpSpec)) fnExactFormatOpUptoCard

/-- THE SECOND FORM's CARD OF 'laws.FnExactFormatServers'. -/
def fnExactFormatServersUptoCard : Claim7 := { stood := { row := fnExactFormatServersUptoRow, standIns := [], harness := (true, "0673aa8a0cac7672f7e15188d04d1fc8c182b145c66b718fcd0a3fb95064d57e"), looks := false }, kinds := [], alts := [], laidByText := true, laidKinds := [.data, .data, .data], laidTests := true, laidLooks := .later }
def FnExactFormatServersUptoCardSaid : Prop := Claim7.holds Tryd.pinned (.plain (OpenSpec.upto fnExactFormatServersSpec)) fnExactFormatServersUptoCard

/-- THE SECOND FORM's CARD OF 'laws.FnExactParseServers'. -/
def fnExactParseServersUptoCard : Claim7 := { stood := { row := fnExactParseServersUptoRow, standIns := [], harness := (true, "0673aa8a0cac7672f7e15188d04d1fc8c182b145c66b718fcd0a3fb95064d57e"), looks := false }, kinds := [], alts := [], laidByText := true, laidKinds := [.data, .data, .data], laidTests := true, laidLooks := .later }
def FnExactParseServersUptoCardSaid : Prop := Claim7.holds Tryd.pinned (.plain (OpenSpec.upto fnExactParseServersSpec)) fnExactParseServersUptoCard

/-- THE SECOND FORM's CARD OF 'laws.FnExactFormatMachine'. -/
def fnExactFormatMachineUptoCard : Claim7 := { stood := { row := fnExactFormatMachineUptoRow, standIns := [], harness := (true, "0673aa8a0cac7672f7e15188d04d1fc8c182b145c66b718fcd0a3fb95064d57e"), looks := false }, kinds := [], alts := [], laidByText := true, laidKinds := [.data, .data, .data], laidTests := true, laidLooks := .later }
def FnExactFormatMachineUptoCardSaid : Prop := Claim7.holds Tryd.pinned (.plain (OpenSpec.upto fnExactFormatMachineSpec)) fnExactFormatMachineUptoCard

/-- THE SECOND FORM's CARD OF 'laws.FnExactFormatLog'. -/
def fnExactFormatLogUptoCard : Claim7 := { stood := { row := fnExactFormatLogUptoRow, standIns := [], harness := (true, "0673aa8a0cac7672f7e15188d04d1fc8c182b145c66b718fcd0a3fb95064d57e"), looks := false }, kinds := [], alts := [], laidByText := true, laidKinds := [.data, .data, .data], laidTests := true, laidLooks := .later }
def FnExactFormatLogUptoCardSaid : Prop := Claim7.holds Tryd.pinned (.plain (OpenSpec.upto fnExactFormatLogSpec)) fnExactFormatLogUptoCard

/-- THE SECOND FORM's CARD OF 'laws.FnExactSnapshotText'. -/
def fnExactSnapshotTextUptoCard : Claim7 := { stood := { row := fnExactSnapshotTextUptoRow, standIns := [], harness := (true, "0673aa8a0cac7672f7e15188d04d1fc8c182b145c66b718fcd0a3fb95064d57e"), looks := false }, kinds := [], alts := [], laidByText := true, laidKinds := [.data, .data, .data], laidTests := true, laidLooks := .later }
def FnExactSnapshotTextUptoCardSaid : Prop := Claim7.holds Tryd.pinned (.plain (OpenSpec.upto fnExactSnapshotTextSpec)) fnExactSnapshotTextUptoCard

/-- THE SECOND FORM's CARD OF 'laws.FnIntegerEncodings'. -/
def fnIntegerEncodingsUptoCard : Claim7 := { stood := { row := fnIntegerEncodingsUptoRow, standIns := [], harness := (true, "0673aa8a0cac7672f7e15188d04d1fc8c182b145c66b718fcd0a3fb95064d57e"), looks := false }, kinds := [], alts := [], laidByText := true, laidKinds := [.data, .data, .data], laidTests := true, laidLooks := .later }
def FnIntegerEncodingsUptoCardSaid : Prop := Claim7.holds Tryd.pinned (.plain (OpenSpec.upto fnIntegerEncodingsSpec)) fnIntegerEncodingsUptoCard
end Rows
end Go.Proofs.YtlnkpjjmgkmofaaDoor
