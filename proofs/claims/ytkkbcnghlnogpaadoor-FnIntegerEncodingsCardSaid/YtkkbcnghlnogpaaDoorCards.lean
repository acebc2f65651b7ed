/-
  DERIVED. GIVEN WITH THE SEED: THE CARDS: each row of YtkkbcnghlnogpaaDoorRows.lean that lists a variable, with what it lists TIED to the program's text (the seventh form; the later family's looks); each row that meets fmt, with fmt's text TOLD by the authors' own Lean function (tested against real Go, not proved from fmt's source: count such statements apart). THE CARD IS WHAT COUNTS. Prove the row's statement (the work); the ties are given (YtkkbcnghlnogpaaDoorTie.lean); close each card by the builder's one call (the guide's Derived/Test/ToyasCard.lean, 'card_holds'). Laid BY PROGRAM, IN A SANDBOX (cutbox-door.mjs). By AI agents, Wed Nov 11 2026. No macro, syntax, notation, axiom, sorry.
-/
import Derived.Test.YtkkbcnghlnogpaaDoorRows
import GoSem.ClaimSeven
namespace Go.Proofs.YtkkbcnghlnogpaaDoor
namespace Rows

/-- THE TIED CARD OF 'laws.FnIntegerEncodings'. -/
def fnIntegerEncodingsCard : Claim7 := { stood := { row := fnIntegerEncodingsRow, standIns := [], harness := (true, "d9f5c10826611598d302782779e7738221be45a136b7b880a400823a9a91d686"), looks := false }, kinds := [], alts := [], laidByText := true, laidKinds := [.data, .data, .data], laidTests := true, laidLooks := .later }
def FnIntegerEncodingsCardSaid : Prop := Claim7.holds Tryd.pinned (.plain (OpenSpec.ofChange fnIntegerEncodingsSpec)) fnIntegerEncodingsCard

/-- THE TIED CARD OF 'laws.FnExactFormatLog'. -/
def fnExactFormatLogCard : Claim7 := { stood := { row := fnExactFormatLogRow, standIns := [], harness := (true, "d9f5c10826611598d302782779e7738221be45a136b7b880a400823a9a91d686"), looks := false }, kinds := [], alts := [], laidByText := true, laidKinds := [.data, .data, .data], laidTests := true, laidLooks := .later }
def FnExactFormatLogCardSaid : Prop := Claim7.holds Tryd.pinned (.plain (OpenSpec.ofChange fnExactFormatLogSpec)) fnExactFormatLogCard

/-- THE TIED CARD OF 'laws.FnServers'. -/
def fnServersCard : Claim7 := { stood := { row := fnServersRow, standIns := [], harness := (true, "d9f5c10826611598d302782779e7738221be45a136b7b880a400823a9a91d686"), looks := false }, kinds := [], alts := [], laidByText := true, laidKinds := [.data, .data, .data], laidTests := true, laidLooks := .later }
def FnServersCardSaid : Prop := Claim7.holds Tryd.pinned (.plain (OpenSpec.ofChange fnServersSpec)) fnServersCard

/-- THE TIED CARD OF 'laws.FnExactDigestOf'. -/
def fnExactDigestOfCard : Claim7 := { stood := { row := fnExactDigestOfRow, standIns := [], harness := (true, "d9f5c10826611598d302782779e7738221be45a136b7b880a400823a9a91d686"), looks := false }, kinds := [], alts := [], laidByText := true, laidKinds := [.data, .data, .data], laidTests := true, laidLooks := .later }
def FnExactDigestOfCardSaid : Prop := Claim7.holds Tryd.pinned (.plain (OpenSpec.ofChange fnExactDigestOfSpec)) fnExactDigestOfCard

/-- THE TIED CARD OF 'laws.FnExactProvesPrefix'. -/
def fnExactProvesPrefixCard : Claim7 := { stood := { row := fnExactProvesPrefixRow, standIns := [], harness := (true, "d9f5c10826611598d302782779e7738221be45a136b7b880a400823a9a91d686"), looks := false }, kinds := [], alts := [], laidByText := true, laidKinds := [.data, .data, .data], laidTests := true, laidLooks := .later }
def FnExactProvesPrefixCardSaid : Prop := Claim7.holds Tryd.pinned (.plain (OpenSpec.ofChange fnExactProvesPrefixSpec)) fnExactProvesPrefixCard

/-- THE TIED CARD OF 'laws.FnExactDigestList'. -/
def fnExactDigestListCard : Claim7 := { stood := { row := fnExactDigestListRow, standIns := [], harness := (true, "d9f5c10826611598d302782779e7738221be45a136b7b880a400823a9a91d686"), looks := false }, kinds := [], alts := [], laidByText := true, laidKinds := [.data, .data, .data], laidTests := true, laidLooks := .later }
def FnExactDigestListCardSaid : Prop := Claim7.holds Tryd.pinned (.plain (OpenSpec.ofChange fnExactDigestListSpec)) fnExactDigestListCard

/-- THE TIED CARD OF 'laws.FnDigests'. -/
def fnDigestsCard : Claim7 := { stood := { row := fnDigestsRow, standIns := [], harness := (true, "d9f5c10826611598d302782779e7738221be45a136b7b880a400823a9a91d686"), looks := false }, kinds := [], alts := [], laidByText := true, laidKinds := [.data, .data, .data], laidTests := true, laidLooks := .later }
def FnDigestsCardSaid : Prop := Claim7.holds Tryd.pinned (.plain (OpenSpec.ofChange fnDigestsSpec)) fnDigestsCard

/-- THE SECOND FORM's CARD OF 'laws.FnIntegerEncodings'. -/
def fnIntegerEncodingsUptoCard : Claim7 := { stood := { row := fnIntegerEncodingsUptoRow, standIns := [], harness := (true, "d9f5c10826611598d302782779e7738221be45a136b7b880a400823a9a91d686"), looks := false }, kinds := [], alts := [], laidByText := true, laidKinds := [.data, .data, .data], laidTests := true, laidLooks := .later }
def FnIntegerEncodingsUptoCardSaid : Prop := Claim7.holds Tryd.pinned (.plain (OpenSpec.upto fnIntegerEncodingsSpec)) fnIntegerEncodingsUptoCard

/-- THE SECOND FORM's CARD OF 'laws.FnExactFormatLog'. -/
def fnExactFormatLogUptoCard : Claim7 := { stood := { row := fnExactFormatLogUptoRow, standIns := [], harness := (true, "d9f5c10826611598d302782779e7738221be45a136b7b880a400823a9a91d686"), looks := false }, kinds := [], alts := [], laidByText := true, laidKinds := [.data, .data, .data], laidTests := true, laidLooks := .later }
def FnExactFormatLogUptoCardSaid : Prop := Claim7.holds Tryd.pinned (.plain (OpenSpec.upto fnExactFormatLogSpec)) fnExactFormatLogUptoCard

/-- THE SECOND FORM's CARD OF 'laws.FnServers'. -/
def fnServersUptoCard : Claim7 := { stood := { row := fnServersUptoRow, standIns := [], harness := (true, "d9f5c10826611598d302782779e7738221be45a136b7b880a400823a9a91d686"), looks := false }, kinds := [], alts := [], laidByText := true, laidKinds := [.data, .data, .data], laidTests := true, laidLooks := .later }
def FnServersUptoCardSaid : Prop := Claim7.holds Tryd.pinned (.plain (OpenSpec.upto fnServersSpec)) fnServersUptoCard

/-- THE SECOND FORM's CARD OF 'laws.FnExactDigestOf'. -/
def fnExactDigestOfUptoCard : Claim7 := { stood := { row := fnExactDigestOfUptoRow, standIns := [], harness := (true, "d9f5c10826611598d302782779e7738221be45a136b7b880a400823a9a91d686"), looks := false }, kinds := [], alts := [], laidByText := true, laidKinds := [.data, .data, .data], laidTests := true, laidLooks := .later }
def FnExactDigestOfUptoCardSaid : Prop := Claim7.holds Tryd.pinned (.plain (OpenSpec.upto fnExactDigestOfSpec)) fnExactDigestOfUptoCard

/-- THE SECOND FORM's CARD OF 'laws.FnExactProvesPrefix'. -/
def fnExactProvesPrefixUptoCard : Claim7 := { stood := { row := fnExactProvesPrefixUptoRow, standIns := [], harness := (true, "d9f5c10826611598d302782779e7738221be45a136b7b880a400823a9a91d686"), looks := false }, kinds := [], alts := [], laidByText := true, laidKinds := [.data, .data, .data], laidTests := true, laidLooks := .later }
def FnExactProvesPrefixUptoCardSaid : Prop := Claim7.holds Tryd.pinned (.plain (OpenSpec.upto fnExactProvesPrefixSpec)) fnExactProvesPrefixUptoCard

/-- THE SECOND FORM's CARD OF 'laws.FnExactDigestList'. -/
def fnExactDigestListUptoCard : Claim7 := { stood := { row := fnExactDigestListUptoRow, standIns := [], harness := (true, "d9f5c10826611598d302782779e7738221be45a136b7b880a400823a9a91d686"), looks := false }, kinds := [], alts := [], laidByText := true, laidKinds := [.data, .data, .data], laidTests := true, laidLooks := .later }
def FnExactDigestListUptoCardSaid : Prop := Claim7.holds Tryd.pinned (.plain (OpenSpec.upto fnExactDigestListSpec)) fnExactDigestListUptoCard

/-- THE SECOND FORM's CARD OF 'laws.FnDigests'. -/
def fnDigestsUptoCard : Claim7 := { stood := { row := fnDigestsUptoRow, standIns := [], harness := (true, "d9f5c10826611598d302782779e7738221be45a136b7b880a400823a9a91d686"), looks := false }, kinds := [], alts := [], laidByText := true, laidKinds := [.data, .data, .data], laidTests := true, laidLooks := .later }
def FnDigestsUptoCardSaid : Prop := Claim7.holds Tryd.pinned (.plain (OpenSpec.upto fnDigestsSpec)) fnDigestsUptoCard
end Rows
end Go.Proofs.YtkkbcnghlnogpaaDoor
