/-
  DERIVED. GIVEN WITH THE SEED: THE CARDS: each row of YtnibkllpodpokaaDoorRows.lean that lists a variable, with what it lists TIED to the program's text (the seventh form; the later family's looks); each row that meets fmt, with fmt's text TOLD by the authors' own Lean function (tested against real Go, not proved from fmt's source: count such statements apart). THE CARD IS WHAT COUNTS. Prove the row's statement (the work); the ties are given (YtnibkllpodpokaaDoorTie.lean); close each card by the builder's one call (the guide's Derived/Test/ToyasCard.lean, 'card_holds'). Laid BY PROGRAM, IN A SANDBOX (cutbox-door.mjs). By AI agents, Wed Nov 11 2026. No macro, syntax, notation, axiom, sorry.
-/
import Derived.Test.YtnibkllpodpokaaDoorRows
import GoSem.ClaimSeven
namespace Go.Proofs.YtnibkllpodpokaaDoor
namespace Rows

/-- THE TIED CARD OF 'laws.FnExactDigestOf'. -/
def fnExactDigestOfCard : Claim7 := { stood := { row := fnExactDigestOfRow, standIns := [], harness := (true, "0c816cac62308737f87e0f4a0c9b706a46d30850e121949bc68e745ce1689fec"), looks := false }, kinds := [], alts := [], laidByText := true, laidKinds := [.data, .data, .data], laidTests := true, laidLooks := .later }
def FnExactDigestOfCardSaid : Prop := Claim7.holds Tryd.pinned (.plain (OpenSpec.ofChange fnExactDigestOfSpec)) fnExactDigestOfCard

/-- THE TIED CARD OF 'laws.FnExactProvesPrefix'. -/
def fnExactProvesPrefixCard : Claim7 := { stood := { row := fnExactProvesPrefixRow, standIns := [], harness := (true, "0c816cac62308737f87e0f4a0c9b706a46d30850e121949bc68e745ce1689fec"), looks := false }, kinds := [], alts := [], laidByText := true, laidKinds := [.data, .data, .data], laidTests := true, laidLooks := .later }
def FnExactProvesPrefixCardSaid : Prop := Claim7.holds Tryd.pinned (.plain (OpenSpec.ofChange fnExactProvesPrefixSpec)) fnExactProvesPrefixCard

/-- THE TIED CARD OF 'laws.FnExactDigestList'. -/
def fnExactDigestListCard : Claim7 := { stood := { row := fnExactDigestListRow, standIns := [], harness := (true, "0c816cac62308737f87e0f4a0c9b706a46d30850e121949bc68e745ce1689fec"), looks := false }, kinds := [], alts := [], laidByText := true, laidKinds := [.data, .data, .data], laidTests := true, laidLooks := .later }
def FnExactDigestListCardSaid : Prop := Claim7.holds Tryd.pinned (.plain (OpenSpec.ofChange fnExactDigestListSpec)) fnExactDigestListCard

/-- THE TIED CARD OF 'laws.FnDigests'. -/
def fnDigestsCard : Claim7 := { stood := { row := fnDigestsRow, standIns := [], harness := (true, "0c816cac62308737f87e0f4a0c9b706a46d30850e121949bc68e745ce1689fec"), looks := false }, kinds := [], alts := [], laidByText := true, laidKinds := [.data, .data, .data], laidTests := true, laidLooks := .later }
def FnDigestsCardSaid : Prop := Claim7.holds Tryd.pinned (.plain (OpenSpec.ofChange fnDigestsSpec)) fnDigestsCard

/-- THE TIED CARD OF 'laws.FnExactEncodeChunks'. -/
def fnExactEncodeChunksCard : Claim7 := { stood := { row := fnExactEncodeChunksRow, standIns := [], harness := (true, "0c816cac62308737f87e0f4a0c9b706a46d30850e121949bc68e745ce1689fec"), looks := false }, kinds := [], alts := [], laidByText := true, laidKinds := [.data, .data, .data], laidTests := true, laidLooks := .later }
def FnExactEncodeChunksCardSaid : Prop := Claim7.holds Tryd.pinned (.plain (OpenSpec.ofChange fnExactEncodeChunksSpec)) fnExactEncodeChunksCard

/-- THE TIED CARD OF 'laws.FnExactJoinChunks'. -/
def fnExactJoinChunksCard : Claim7 := { stood := { row := fnExactJoinChunksRow, standIns := [], harness := (true, "0c816cac62308737f87e0f4a0c9b706a46d30850e121949bc68e745ce1689fec"), looks := false }, kinds := [], alts := [], laidByText := true, laidKinds := [.data, .data, .data], laidTests := true, laidLooks := .later }
def FnExactJoinChunksCardSaid : Prop := Claim7.holds Tryd.pinned (.plain (OpenSpec.ofChange fnExactJoinChunksSpec)) fnExactJoinChunksCard

/-- THE TIED CARD OF 'laws.FnExactReceiveChunk'. -/
def fnExactReceiveChunkCard : Claim7 := { stood := { row := fnExactReceiveChunkRow, standIns := [], harness := (true, "0c816cac62308737f87e0f4a0c9b706a46d30850e121949bc68e745ce1689fec"), looks := false }, kinds := [], alts := [], laidByText := true, laidKinds := [.data, .data, .data], laidTests := true, laidLooks := .later }
def FnExactReceiveChunkCardSaid : Prop := Claim7.holds Tryd.pinned (.plain (OpenSpec.ofChange fnExactReceiveChunkSpec)) fnExactReceiveChunkCard

/-- THE TIED CARD OF 'laws.FnChunks'. -/
def fnChunksCard : Claim7 := { stood := { row := fnChunksRow, standIns := [], harness := (true, "0c816cac62308737f87e0f4a0c9b706a46d30850e121949bc68e745ce1689fec"), looks := false }, kinds := [], alts := [], laidByText := true, laidKinds := [.data, .data, .data], laidTests := true, laidLooks := .later }
def FnChunksCardSaid : Prop := Claim7.holds Tryd.pinned (.plain (OpenSpec.ofChange fnChunksSpec)) fnChunksCard

/-- THE TIED CARD OF 'laws.FnExactParseOp'. -/
def fnExactParseOpCard : Claim7 := { stood := { row := fnExactParseOpRow, standIns := [], harness := (true, "0c816cac62308737f87e0f4a0c9b706a46d30850e121949bc68e745ce1689fec"), looks := false }, kinds := [], alts := [], laidByText := true, laidKinds := [.data, .data, .data, .data, .pinned], laidTests := true, laidLooks := .later }
def FnExactParseOpCardSaid : Prop := Claim7.holds Tryd.pinned (.plain (OpenSpec.ofChange fnExactParseOpSpec)) fnExactParseOpCard

/-- THE TIED CARD OF 'laws.FnExactParseLog'. -/
def fnExactParseLogCard : Claim7 := { stood := { row := fnExactParseLogRow, standIns := [], harness := (true, "0c816cac62308737f87e0f4a0c9b706a46d30850e121949bc68e745ce1689fec"), looks := false }, kinds := [], alts := [], laidByText := true, laidKinds := [.data, .data, .data, .data, .pinned], laidTests := true, laidLooks := .later }
def FnExactParseLogCardSaid : Prop := Claim7.holds Tryd.pinned (.plain (OpenSpec.ofChange fnExactParseLogSpec)) fnExactParseLogCard

/-- THE TIED CARD OF 'laws.FnExactParseMachine'. -/
def fnExactParseMachineCard : Claim7 := { stood := { row := fnExactParseMachineRow, standIns := [], harness := (true, "0c816cac62308737f87e0f4a0c9b706a46d30850e121949bc68e745ce1689fec"), looks := false }, kinds := [], alts := [], laidByText := true, laidKinds := [.data, .data, .data, .data, .pinned], laidTests := true, laidLooks := .later }
def FnExactParseMachineCardSaid : Prop := Claim7.holds Tryd.pinned (.plain (OpenSpec.ofChange fnExactParseMachineSpec)) fnExactParseMachineCard

/-- THE SECOND FORM's CARD OF 'laws.FnExactDigestOf'. -/
def fnExactDigestOfUptoCard : Claim7 := { stood := { row := fnExactDigestOfUptoRow, standIns := [], harness := (true, "0c816cac62308737f87e0f4a0c9b706a46d30850e121949bc68e745ce1689fec"), looks := false }, kinds := [], alts := [], laidByText := true, laidKinds := [.data, .data, .data], laidTests := true, laidLooks := .later }
def FnExactDigestOfUptoCardSaid : Prop := Claim7.holds Tryd.pinned (.plain (OpenSpec.upto fnExactDigestOfSpec)) fnExactDigestOfUptoCard

/-- THE SECOND FORM's CARD OF 'laws.FnExactProvesPrefix'. -/
def fnExactProvesPrefixUptoCard : Claim7 := { stood := { row := fnExactProvesPrefixUptoRow, standIns := [], harness := (true, "0c816cac62308737f87e0f4a0c9b706a46d30850e121949bc68e745ce1689fec"), looks := false }, kinds := [], alts := [], laidByText := true, laidKinds := [.data, .data, .data], laidTests := true, laidLooks := .later }
def FnExactProvesPrefixUptoCardSaid : Prop := Claim7.holds Tryd.pinned (.plain (OpenSpec.upto fnExactProvesPrefixSpec)) fnExactProvesPrefixUptoCard

/-- THE SECOND FORM's CARD OF 'laws.FnExactDigestList'. -/
def fnExactDigestListUptoCard : Claim7 := { stood := { row := fnExactDigestListUptoRow, standIns := [], harness := (true, "0c816cac62308737f87e0f4a0c9b706a46d30850e121949bc68e745ce1689fec"), looks := false }, kinds := [], alts := [], laidByText := true, laidKinds := [.data, .data, .data], laidTests := true, laidLooks := .later }
def FnExactDigestListUptoCardSaid : Prop := Claim7.holds Tryd.pinned (.plain (OpenSpec.upto fnExactDigestListSpec)) fnExactDigestListUptoCard

/-- THE SECOND FORM's CARD OF 'laws.FnDigests'. -/
def fnDigestsUptoCard : Claim7 := { stood := { row := fnDigestsUptoRow, standIns := [], harness := (true, "0c816cac62308737f87e0f4a0c9b706a46d30850e121949bc68e745ce1689fec"), looks := false }, kinds := [], alts := [], laidByText := true, laidKinds := [.data, .data, .data], laidTests := true, laidLooks := .later }
def FnDigestsUptoCardSaid : Prop := Claim7.holds Tryd.pinned (.plain (OpenSpec.upto fnDigestsSpec)) fnDigestsUptoCard

/-- THE SECOND FORM's CARD OF 'laws.FnExactEncodeChunks'. -/
def fnExactEncodeChunksUptoCard : Claim7 := { stood := { row := fnExactEncodeChunksUptoRow, standIns := [], harness := (true, "0c816cac62308737f87e0f4a0c9b706a46d30850e121949bc68e745ce1689fec"), looks := false }, kinds := [], alts := [], laidByText := true, laidKinds := [.data, .data, .data], laidTests := true, laidLooks := .later }
def FnExactEncodeChunksUptoCardSaid : Prop := Claim7.holds Tryd.pinned (.plain (OpenSpec.upto fnExactEncodeChunksSpec)) fnExactEncodeChunksUptoCard

/-- THE SECOND FORM's CARD OF 'laws.FnExactJoinChunks'. -/
def fnExactJoinChunksUptoCard : Claim7 := { stood := { row := fnExactJoinChunksUptoRow, standIns := [], harness := (true, "0c816cac62308737f87e0f4a0c9b706a46d30850e121949bc68e745ce1689fec"), looks := false }, kinds := [], alts := [], laidByText := true, laidKinds := [.data, .data, .data], laidTests := true, laidLooks := .later }
def FnExactJoinChunksUptoCardSaid : Prop := Claim7.holds Tryd.pinned (.plain (OpenSpec.upto fnExactJoinChunksSpec)) fnExactJoinChunksUptoCard

/-- THE SECOND FORM's CARD OF 'laws.FnExactReceiveChunk'. -/
def fnExactReceiveChunkUptoCard : Claim7 := { stood := { row := fnExactReceiveChunkUptoRow, standIns := [], harness := (true, "0c816cac62308737f87e0f4a0c9b706a46d30850e121949bc68e745ce1689fec"), looks := false }, kinds := [], alts := [], laidByText := true, laidKinds := [.data, .data, .data], laidTests := true, laidLooks := .later }
def FnExactReceiveChunkUptoCardSaid : Prop := Claim7.holds Tryd.pinned (.plain (OpenSpec.upto fnExactReceiveChunkSpec)) fnExactReceiveChunkUptoCard

/-- THE SECOND FORM's CARD OF 'laws.FnChunks'. -/
def fnChunksUptoCard : Claim7 := { stood := { row := fnChunksUptoRow, standIns := [], harness := (true, "0c816cac62308737f87e0f4a0c9b706a46d30850e121949bc68e745ce1689fec"), looks := false }, kinds := [], alts := [], laidByText := true, laidKinds := [.data, .data, .data], laidTests := true, laidLooks := .later }
def FnChunksUptoCardSaid : Prop := Claim7.holds Tryd.pinned (.plain (OpenSpec.upto fnChunksSpec)) fnChunksUptoCard

/-- THE SECOND FORM's CARD OF 'laws.FnExactParseOp'. -/
def fnExactParseOpUptoCard : Claim7 := { stood := { row := fnExactParseOpUptoRow, standIns := [], harness := (true, "0c816cac62308737f87e0f4a0c9b706a46d30850e121949bc68e745ce1689fec"), looks := false }, kinds := [], alts := [], laidByText := true, laidKinds := [.data, .data, .data, .data, .pinned], laidTests := true, laidLooks := .later }
def FnExactParseOpUptoCardSaid : Prop := Claim7.holds Tryd.pinned (.plain (OpenSpec.upto fnExactParseOpSpec)) fnExactParseOpUptoCard

/-- THE SECOND FORM's CARD OF 'laws.FnExactParseLog'. -/
def fnExactParseLogUptoCard : Claim7 := { stood := { row := fnExactParseLogUptoRow, standIns := [], harness := (true, "0c816cac62308737f87e0f4a0c9b706a46d30850e121949bc68e745ce1689fec"), looks := false }, kinds := [], alts := [], laidByText := true, laidKinds := [.data, .data, .data, .data, .pinned], laidTests := true, laidLooks := .later }
def FnExactParseLogUptoCardSaid : Prop := Claim7.holds Tryd.pinned (.plain (OpenSpec.upto fnExactParseLogSpec)) fnExactParseLogUptoCard

/-- THE SECOND FORM's CARD OF 'laws.FnExactParseMachine'. -/
def fnExactParseMachineUptoCard : Claim7 := { stood := { row := fnExactParseMachineUptoRow, standIns := [], harness := (true, "0c816cac62308737f87e0f4a0c9b706a46d30850e121949bc68e745ce1689fec"), looks := false }, kinds := [], alts := [], laidByText := true, laidKinds := [.data, .data, .data, .data, .pinned], laidTests := true, laidLooks := .later }
def FnExactParseMachineUptoCardSaid : Prop := Claim7.holds Tryd.pinned (.plain (OpenSpec.upto fnExactParseMachineSpec)) fnExactParseMachineUptoCard
end Rows
end Go.Proofs.YtnibkllpodpokaaDoor
