/-
  DERIVED. GIVEN WITH THE SEED: THE CARDS: each row of YtijjfnkblfimfaaDoorRows.lean that lists a variable, with what it lists TIED to the program's text (the seventh form; the later family's looks); each row that meets fmt, with fmt's text TOLD by the authors' own Lean function (tested against real Go, not proved from fmt's source: count such statements apart). THE CARD IS WHAT COUNTS. Prove the row's statement (the work); the ties are given (YtijjfnkblfimfaaDoorTie.lean); close each card by the builder's one call (the guide's Derived/Test/ToyasCard.lean, 'card_holds'). Laid BY PROGRAM, IN A SANDBOX (cutbox-door.mjs). By AI agents, Wed Nov 11 2026. No macro, syntax, notation, axiom, sorry.
-/
import Derived.Test.YtijjfnkblfimfaaDoorRows
import GoSem.ClaimSeven
namespace Go.Proofs.YtijjfnkblfimfaaDoor
namespace Rows

/-- THE TIED CARD OF 'laws.FnExactJoinChunks'. -/
def fnExactJoinChunksCard : Claim7 := { stood := { row := fnExactJoinChunksRow, standIns := [], harness := (true, "5d10c1618d5345e830bfb638d1b204f183481db362b6923e7390d0b2d15fb585"), looks := false }, kinds := [], alts := [], laidByText := true, laidKinds := [.data, .data, .data], laidTests := true, laidLooks := .later }
def FnExactJoinChunksCardSaid : Prop := Claim7.holds Tryd.pinned (.plain (OpenSpec.ofChange fnExactJoinChunksSpec)) fnExactJoinChunksCard

/-- THE TIED CARD OF 'laws.FnExactReceiveChunk'. -/
def fnExactReceiveChunkCard : Claim7 := { stood := { row := fnExactReceiveChunkRow, standIns := [], harness := (true, "5d10c1618d5345e830bfb638d1b204f183481db362b6923e7390d0b2d15fb585"), looks := false }, kinds := [], alts := [], laidByText := true, laidKinds := [.data, .data, .data], laidTests := true, laidLooks := .later }
def FnExactReceiveChunkCardSaid : Prop := Claim7.holds Tryd.pinned (.plain (OpenSpec.ofChange fnExactReceiveChunkSpec)) fnExactReceiveChunkCard

/-- THE TIED CARD OF 'laws.FnChunks'. -/
def fnChunksCard : Claim7 := { stood := { row := fnChunksRow, standIns := [], harness := (true, "5d10c1618d5345e830bfb638d1b204f183481db362b6923e7390d0b2d15fb585"), looks := false }, kinds := [], alts := [], laidByText := true, laidKinds := [.data, .data, .data], laidTests := true, laidLooks := .later }
def FnChunksCardSaid : Prop := Claim7.holds Tryd.pinned (.plain (OpenSpec.ofChange fnChunksSpec)) fnChunksCard

/-- THE TIED CARD OF 'laws.FnExactParseOp'. -/
def fnExactParseOpCard : Claim7 := { stood := { row := fnExactParseOpRow, standIns := [], harness := (true, "5d10c1618d5345e830bfb638d1b204f183481db362b6923e7390d0b2d15fb585"), looks := false }, kinds := [], alts := [], laidByText := true, laidKinds := [.data, .data, .data, .data, .pinned], laidTests := true, laidLooks := .later }
def FnExactParseOpCardSaid : Prop := Claim7.holds Tryd.pinned (.plain (OpenSpec.ofChange fnExactParseOpSpec)) fnExactParseOpCard

/-- THE TIED CARD OF 'laws.FnExactParseLog'. -/
def fnExactParseLogCard : Claim7 := { stood := { row := fnExactParseLogRow, standIns := [], harness := (true, "5d10c1618d5345e830bfb638d1b204f183481db362b6923e7390d0b2d15fb585"), looks := false }, kinds := [], alts := [], laidByText := true, laidKinds := [.data, .data, .data, .data, .pinned], laidTests := true, laidLooks := .later }
def FnExactParseLogCardSaid : Prop := Claim7.holds Tryd.pinned (.plain (OpenSpec.ofChange fnExactParseLogSpec)) fnExactParseLogCard

/-- THE TIED CARD OF 'laws.FnExactParseMachine'. -/
def fnExactParseMachineCard : Claim7 := { stood := { row := fnExactParseMachineRow, standIns := [], harness := (true, "5d10c1618d5345e830bfb638d1b204f183481db362b6923e7390d0b2d15fb585"), looks := false }, kinds := [], alts := [], laidByText := true, laidKinds := [.data, .data, .data, .data, .pinned], laidTests := true, laidLooks := .later }
def FnExactParseMachineCardSaid : Prop := Claim7.holds Tryd.pinned (.plain (OpenSpec.ofChange fnExactParseMachineSpec)) fnExactParseMachineCard

/-- THE SECOND FORM's CARD OF 'laws.FnExactJoinChunks'. -/
def fnExactJoinChunksUptoCard : Claim7 := { stood := { row := fnExactJoinChunksUptoRow, standIns := [], harness := (true, "5d10c1618d5345e830bfb638d1b204f183481db362b6923e7390d0b2d15fb585"), looks := false }, kinds := [], alts := [], laidByText := true, laidKinds := [.data, .data, .data], laidTests := true, laidLooks := .later }
def FnExactJoinChunksUptoCardSaid : Prop := Claim7.holds Tryd.pinned (.plain (OpenSpec.upto fnExactJoinChunksSpec)) fnExactJoinChunksUptoCard

/-- THE SECOND FORM's CARD OF 'laws.FnExactReceiveChunk'. -/
def fnExactReceiveChunkUptoCard : Claim7 := { stood := { row := fnExactReceiveChunkUptoRow, standIns := [], harness := (true, "5d10c1618d5345e830bfb638d1b204f183481db362b6923e7390d0b2d15fb585"), looks := false }, kinds := [], alts := [], laidByText := true, laidKinds := [.data, .data, .data], laidTests := true, laidLooks := .later }
def FnExactReceiveChunkUptoCardSaid : Prop := Claim7.holds Tryd.pinned (.plain (OpenSpec.upto fnExactReceiveChunkSpec)) fnExactReceiveChunkUptoCard

/-- THE SECOND FORM's CARD OF 'laws.FnChunks'. -/
def fnChunksUptoCard : Claim7 := { stood := { row := fnChunksUptoRow, standIns := [], harness := (true, "5d10c1618d5345e830bfb638d1b204f183481db362b6923e7390d0b2d15fb585"), looks := false }, kinds := [], alts := [], laidByText := true, laidKinds := [.data, .data, .data], laidTests := true, laidLooks := .later }
def FnChunksUptoCardSaid : Prop := Claim7.holds Tryd.pinned (.plain (OpenSpec.upto fnChunksSpec)) fnChunksUptoCard

/-- THE SECOND FORM's CARD OF 'laws.FnExactParseOp'. -/
def fnExactParseOpUptoCard : Claim7 := { stood := { row := fnExactParseOpUptoRow, standIns := [], harness := (true, "5d10c1618d5345e830bfb638d1b204f183481db362b6923e7390d0b2d15fb585"), looks := false }, kinds := [], alts := [], laidByText := true, laidKinds := [.data, .data, .data, .data, .pinned], laidTests := true, laidLooks := .later }
def FnExactParseOpUptoCardSaid : Prop := Claim7.holds Tryd.pinned (.plain (OpenSpec.upto fnExactParseOpSpec)) fnExactParseOpUptoCard

/-- THE SECOND FORM's CARD OF 'laws.FnExactParseLog'. -/
def fnExactParseLogUptoCard : Claim7 := { stood := { row := fnExactParseLogUptoRow, standIns := [], harness := (true, "5d10c1618d5345e830bfb638d1b204f183481db362b6923e7390d0b2d15fb585"), looks := false }, kinds := [], alts := [], laidByText := true, laidKinds := [.data, .data, .data, .data, .pinned], laidTests := true, laidLooks := .later }
def FnExactParseLogUptoCardSaid : Prop := Claim7.holds Tryd.pinned (.plain (OpenSpec.upto fnExactParseLogSpec)) fnExactParseLogUptoCard

/-- THE SECOND FORM's CARD OF 'laws.FnExactParseMachine'. -/
def fnExactParseMachineUptoCard : Claim7 := { stood := { row := fnExactParseMachineUptoRow, standIns := [], harness := (true, "5d10c1618d5345e830bfb638d1b204f183481db362b6923e7390d0b2d15fb585"), looks := false }, kinds := [], alts := [], laidByText := true, laidKinds := [.data, .data, .data, .data, .pinned], laidTests := true, laidLooks := .later }
def FnExactParseMachineUptoCardSaid : Prop := Claim7.holds Tryd.pinned (.plain (OpenSpec.upto fnExactParseMachineSpec)) fnExactParseMachineUptoCard
end Rows
end Go.Proofs.YtijjfnkblfimfaaDoor
