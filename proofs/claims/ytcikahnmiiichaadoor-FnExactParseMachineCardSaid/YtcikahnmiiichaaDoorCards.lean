/-
  DERIVED. GIVEN WITH THE SEED: THE CARDS: each row of YtcikahnmiiichaaDoorRows.lean that lists a variable, with what it lists TIED to the program's text (the seventh form; the later family's looks); each row that meets fmt, with fmt's text TOLD by the authors' own Lean function (tested against real Go, not proved from fmt's source: count such statements apart). THE CARD IS WHAT COUNTS. Prove the row's statement (the work); the ties are given (YtcikahnmiiichaaDoorTie.lean); close each card by the builder's one call (the guide's Derived/Test/ToyasCard.lean, 'card_holds'). Laid BY PROGRAM, IN A SANDBOX (cutbox-door.mjs). By AI agents, Wed Nov 11 2026. No macro, syntax, notation, axiom, sorry.
-/
import Derived.Test.YtcikahnmiiichaaDoorRows
import GoSem.ClaimSeven
namespace Go.Proofs.YtcikahnmiiichaaDoor
namespace Rows

/-- THE TIED CARD OF 'laws.FnDigests'. -/
def fnDigestsCard : Claim7 := { stood := { row := fnDigestsRow, standIns := [], harness := (true, "bfdf754554bb4da02fdd91082a384919353b83ae6e3dd82cc900a9e1f3372c5e"), looks := false }, kinds := [], alts := [], laidByText := true, laidKinds := [.data, .data, .data], laidTests := true, laidLooks := .later }
def FnDigestsCardSaid : Prop := Claim7.holds Tryd.pinned (.plain (OpenSpec.ofChange fnDigestsSpec)) fnDigestsCard

/-- THE TIED CARD OF 'laws.FnChunks'. -/
def fnChunksCard : Claim7 := { stood := { row := fnChunksRow, standIns := [], harness := (true, "bfdf754554bb4da02fdd91082a384919353b83ae6e3dd82cc900a9e1f3372c5e"), looks := false }, kinds := [], alts := [], laidByText := true, laidKinds := [.data, .data, .data], laidTests := true, laidLooks := .later }
def FnChunksCardSaid : Prop := Claim7.holds Tryd.pinned (.plain (OpenSpec.ofChange fnChunksSpec)) fnChunksCard

/-- THE TIED CARD OF 'laws.FnExactParseLog'. -/
def fnExactParseLogCard : Claim7 := { stood := { row := fnExactParseLogRow, standIns := [], harness := (true, "bfdf754554bb4da02fdd91082a384919353b83ae6e3dd82cc900a9e1f3372c5e"), looks := false }, kinds := [], alts := [], laidByText := true, laidKinds := [.data, .data, .data, .data, .pinned], laidTests := true, laidLooks := .later }
def FnExactParseLogCardSaid : Prop := Claim7.holds Tryd.pinned (.plain (OpenSpec.ofChange fnExactParseLogSpec)) fnExactParseLogCard

/-- THE TIED CARD OF 'laws.FnExactParseMachine'. -/
def fnExactParseMachineCard : Claim7 := { stood := { row := fnExactParseMachineRow, standIns := [], harness := (true, "bfdf754554bb4da02fdd91082a384919353b83ae6e3dd82cc900a9e1f3372c5e"), looks := false }, kinds := [], alts := [], laidByText := true, laidKinds := [.data, .data, .data, .data, .pinned], laidTests := true, laidLooks := .later }
def FnExactParseMachineCardSaid : Prop := Claim7.holds Tryd.pinned (.plain (OpenSpec.ofChange fnExactParseMachineSpec)) fnExactParseMachineCard

/-- THE SECOND FORM's CARD OF 'laws.FnDigests'. -/
def fnDigestsUptoCard : Claim7 := { stood := { row := fnDigestsUptoRow, standIns := [], harness := (true, "bfdf754554bb4da02fdd91082a384919353b83ae6e3dd82cc900a9e1f3372c5e"), looks := false }, kinds := [], alts := [], laidByText := true, laidKinds := [.data, .data, .data], laidTests := true, laidLooks := .later }
def FnDigestsUptoCardSaid : Prop := Claim7.holds Tryd.pinned (.plain (OpenSpec.upto fnDigestsSpec)) fnDigestsUptoCard

/-- THE SECOND FORM's CARD OF 'laws.FnChunks'. -/
def fnChunksUptoCard : Claim7 := { stood := { row := fnChunksUptoRow, standIns := [], harness := (true, "bfdf754554bb4da02fdd91082a384919353b83ae6e3dd82cc900a9e1f3372c5e"), looks := false }, kinds := [], alts := [], laidByText := true, laidKinds := [.data, .data, .data], laidTests := true, laidLooks := .later }
def FnChunksUptoCardSaid : Prop := Claim7.holds Tryd.pinned (.plain (OpenSpec.upto fnChunksSpec)) fnChunksUptoCard

/-- THE SECOND FORM's CARD OF 'laws.FnExactParseLog'. -/
def fnExactParseLogUptoCard : Claim7 := { stood := { row := fnExactParseLogUptoRow, standIns := [], harness := (true, "bfdf754554bb4da02fdd91082a384919353b83ae6e3dd82cc900a9e1f3372c5e"), looks := false }, kinds := [], alts := [], laidByText := true, laidKinds := [.data, .data, .data, .data, .pinned], laidTests := true, laidLooks := .later }
def FnExactParseLogUptoCardSaid : Prop := Claim7.holds Tryd.pinned (.plain (OpenSpec.upto fnExactParseLogSpec)) fnExactParseLogUptoCard

/-- THE SECOND FORM's CARD OF 'laws.FnExactParseMachine'. -/
def fnExactParseMachineUptoCard : Claim7 := { stood := { row := fnExactParseMachineUptoRow, standIns := [], harness := (true, "bfdf754554bb4da02fdd91082a384919353b83ae6e3dd82cc900a9e1f3372c5e"), looks := false }, kinds := [], alts := [], laidByText := true, laidKinds := [.data, .data, .data, .data, .pinned], laidTests := true, laidLooks := .later }
def FnExactParseMachineUptoCardSaid : Prop := Claim7.holds Tryd.pinned (.plain (OpenSpec.upto fnExactParseMachineSpec)) fnExactParseMachineUptoCard
end Rows
end Go.Proofs.YtcikahnmiiichaaDoor
