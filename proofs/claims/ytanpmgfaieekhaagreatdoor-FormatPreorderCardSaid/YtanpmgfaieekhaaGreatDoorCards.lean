/-
  DERIVED. GIVEN WITH THE SEED: THE CARDS: each row of YtanpmgfaieekhaaGreatDoorRows.lean that lists a variable, with what it lists TIED to the program's text (the seventh form; the later family's looks); each row that meets fmt, with fmt's text TOLD by the authors' own Lean function (tested against real Go, not proved from fmt's source: count such statements apart). THE CARD IS WHAT COUNTS. Prove the row's statement (the work); the ties are given (YtanpmgfaieekhaaGreatDoorTie.lean); close each card by the builder's one call (the guide's Derived/Test/ToyasCard.lean, 'card_holds'). Laid BY PROGRAM, IN A SANDBOX (cutbox-door.mjs). By AI agents, Wed Nov 11 2026. No macro, syntax, notation, axiom, sorry.
-/
import Derived.Test.YtanpmgfaieekhaaGreatDoorRows
import GoSem.ClaimSeven
namespace Go.Proofs.YtanpmgfaieekhaaGreatDoor
namespace Rows

/-- THE TIED CARD OF 'niblicklaw05.FormatGives'. -/
def formatGivesCard : Claim7 := { stood := { row := formatGivesRow, standIns := [], harness := (true, "8009b3c18f49961368168474dfe81e8ea81aff018f4328e04b58e5c0c594abda"), looks := false }, kinds := [], alts := [], laidByText := true, laidKinds := [.data, .data, .data], laidTests := true, laidLooks := .later }
def FormatGivesCardSaid : Prop := Claim7.holds Tryz.pinned (.plain (OpenSpec.ofChange formatGivesSpec)) formatGivesCard

/-- THE TIED CARD OF 'niblicklaw05.FormatMatches'. -/
def formatMatchesCard : Claim7 := { stood := { row := formatMatchesRow, standIns := [], harness := (true, "8009b3c18f49961368168474dfe81e8ea81aff018f4328e04b58e5c0c594abda"), looks := false }, kinds := [], alts := [], laidByText := true, laidKinds := [.data, .data, .data], laidTests := true, laidLooks := .later }
def FormatMatchesCardSaid : Prop := Claim7.holds Tryz.pinned (.plain (OpenSpec.ofChange formatMatchesSpec)) formatMatchesCard

/-- THE TIED CARD OF 'niblicklaw05.FormatHandicaps'. -/
def formatHandicapsCard : Claim7 := { stood := { row := formatHandicapsRow, standIns := [], harness := (true, "8009b3c18f49961368168474dfe81e8ea81aff018f4328e04b58e5c0c594abda"), looks := false }, kinds := [], alts := [], laidByText := true, laidKinds := [.data, .data, .data], laidTests := true, laidLooks := .later }
def FormatHandicapsCardSaid : Prop := Claim7.holds Tryz.pinned (.plain (OpenSpec.ofChange formatHandicapsSpec)) formatHandicapsCard

/-- THE TIED CARD OF 'niblicklaw05.FormatFourballs'. -/
def formatFourballsCard : Claim7 := { stood := { row := formatFourballsRow, standIns := [], harness := (true, "8009b3c18f49961368168474dfe81e8ea81aff018f4328e04b58e5c0c594abda"), looks := false }, kinds := [], alts := [], laidByText := true, laidKinds := [.data, .data, .data], laidTests := true, laidLooks := .later }
def FormatFourballsCardSaid : Prop := Claim7.holds Tryz.pinned (.plain (OpenSpec.ofChange formatFourballsSpec)) formatFourballsCard

/-- THE TIED CARD OF 'niblicklaw05.FormatTies'. -/
def formatTiesCard : Claim7 := { stood := { row := formatTiesRow, standIns := [], harness := (true, "8009b3c18f49961368168474dfe81e8ea81aff018f4328e04b58e5c0c594abda"), looks := false }, kinds := [], alts := [], laidByText := true, laidKinds := [.data, .data, .data], laidTests := true, laidLooks := .later }
def FormatTiesCardSaid : Prop := Claim7.holds Tryz.pinned (.plain (OpenSpec.ofChange formatTiesSpec)) formatTiesCard

/-- THE TIED CARD OF 'niblicklaw05.FormatSums'. -/
def formatSumsCard : Claim7 := { stood := { row := formatSumsRow, standIns := [], harness := (true, "8009b3c18f49961368168474dfe81e8ea81aff018f4328e04b58e5c0c594abda"), looks := false }, kinds := [], alts := [], laidByText := true, laidKinds := [.data, .data, .data], laidTests := true, laidLooks := .later }
def FormatSumsCardSaid : Prop := Claim7.holds Tryz.pinned (.plain (OpenSpec.ofChange formatSumsSpec)) formatSumsCard

/-- THE TIED CARD OF 'niblicklaw05.FormatPreorder'. -/
def formatPreorderCard : Claim7 := { stood := { row := formatPreorderRow, standIns := [], harness := (true, "8009b3c18f49961368168474dfe81e8ea81aff018f4328e04b58e5c0c594abda"), looks := false }, kinds := [], alts := [], laidByText := true, laidKinds := [.data, .data, .data], laidTests := true, laidLooks := .later }
def FormatPreorderCardSaid : Prop := Claim7.holds Tryz.pinned (.plain (OpenSpec.ofChange formatPreorderSpec)) formatPreorderCard

/-- THE TIED CARD OF 'niblicklaw05.FormatAlone'. -/
def formatAloneCard : Claim7 := { stood := { row := formatAloneRow, standIns := [], harness := (true, "8009b3c18f49961368168474dfe81e8ea81aff018f4328e04b58e5c0c594abda"), looks := false }, kinds := [], alts := [], laidByText := true, laidKinds := [.data, .data, .data], laidTests := true, laidLooks := .later }
def FormatAloneCardSaid : Prop := Claim7.holds Tryz.pinned (.plain (OpenSpec.ofChange formatAloneSpec)) formatAloneCard

/-- THE TIED CARD OF 'niblicklaw05.FormatScores'. -/
def formatScoresCard : Claim7 := { stood := { row := formatScoresRow, standIns := [], harness := (true, "8009b3c18f49961368168474dfe81e8ea81aff018f4328e04b58e5c0c594abda"), looks := false }, kinds := [], alts := [], laidByText := true, laidKinds := [.data, .data, .data], laidTests := true, laidLooks := .later }
def FormatScoresCardSaid : Prop := Claim7.holds Tryz.pinned (.plain (OpenSpec.ofChange formatScoresSpec)) formatScoresCard

/-- THE TIED CARD OF 'niblicklaw05.FormatSides'. -/
def formatSidesCard : Claim7 := { stood := { row := formatSidesRow, standIns := [], harness := (true, "8009b3c18f49961368168474dfe81e8ea81aff018f4328e04b58e5c0c594abda"), looks := false }, kinds := [], alts := [], laidByText := true, laidKinds := [.data, .data, .data], laidTests := true, laidLooks := .later }
def FormatSidesCardSaid : Prop := Claim7.holds Tryz.pinned (.plain (OpenSpec.ofChange formatSidesSpec)) formatSidesCard

/-- THE TIED CARD OF 'niblicklaw05.FormatTurned'. -/
def formatTurnedCard : Claim7 := { stood := { row := formatTurnedRow, standIns := [], harness := (true, "8009b3c18f49961368168474dfe81e8ea81aff018f4328e04b58e5c0c594abda"), looks := false }, kinds := [], alts := [], laidByText := true, laidKinds := [.data, .data, .data], laidTests := true, laidLooks := .later }
def FormatTurnedCardSaid : Prop := Claim7.holds Tryz.pinned (.plain (OpenSpec.ofChange formatTurnedSpec)) formatTurnedCard

/-- THE TIED CARD OF 'niblicklaw05.FormatLeads'. -/
def formatLeadsCard : Claim7 := { stood := { row := formatLeadsRow, standIns := [], harness := (true, "8009b3c18f49961368168474dfe81e8ea81aff018f4328e04b58e5c0c594abda"), looks := false }, kinds := [], alts := [], laidByText := true, laidKinds := [.data, .data, .data], laidTests := true, laidLooks := .later }
def FormatLeadsCardSaid : Prop := Claim7.holds Tryz.pinned (.plain (OpenSpec.ofChange formatLeadsSpec)) formatLeadsCard

/-- THE SECOND FORM's CARD OF 'niblicklaw05.FormatGives'. -/
def formatGivesUptoCard : Claim7 := { stood := { row := formatGivesUptoRow, standIns := [], harness := (true, "8009b3c18f49961368168474dfe81e8ea81aff018f4328e04b58e5c0c594abda"), looks := false }, kinds := [], alts := [], laidByText := true, laidKinds := [.data, .data, .data], laidTests := true, laidLooks := .later }
def FormatGivesUptoCardSaid : Prop := Claim7.holds Tryz.pinned (.plain (OpenSpec.upto formatGivesSpec)) formatGivesUptoCard

/-- THE SECOND FORM's CARD OF 'niblicklaw05.FormatMatches'. -/
def formatMatchesUptoCard : Claim7 := { stood := { row := formatMatchesUptoRow, standIns := [], harness := (true, "8009b3c18f49961368168474dfe81e8ea81aff018f4328e04b58e5c0c594abda"), looks := false }, kinds := [], alts := [], laidByText := true, laidKinds := [.data, .data, .data], laidTests := true, laidLooks := .later }
def FormatMatchesUptoCardSaid : Prop := Claim7.holds Tryz.pinned (.plain (OpenSpec.upto formatMatchesSpec)) formatMatchesUptoCard

/-- THE SECOND FORM's CARD OF 'niblicklaw05.FormatHandicaps'. -/
def formatHandicapsUptoCard : Claim7 := { stood := { row := formatHandicapsUptoRow, standIns := [], harness := (true, "8009b3c18f49961368168474dfe81e8ea81aff018f4328e04b58e5c0c594abda"), looks := false }, kinds := [], alts := [], laidByText := true, laidKinds := [.data, .data, .data], laidTests := true, laidLooks := .later }
def FormatHandicapsUptoCardSaid : Prop := Claim7.holds Tryz.pinned (.plain (OpenSpec.upto formatHandicapsSpec)) formatHandicapsUptoCard

/-- THE SECOND FORM's CARD OF 'niblicklaw05.FormatFourballs'. -/
def formatFourballsUptoCard : Claim7 := { stood := { row := formatFourballsUptoRow, standIns := [], harness := (true, "8009b3c18f49961368168474dfe81e8ea81aff018f4328e04b58e5c0c594abda"), looks := false }, kinds := [], alts := [], laidByText := true, laidKinds := [.data, .data, .data], laidTests := true, laidLooks := .later }
def FormatFourballsUptoCardSaid : Prop := Claim7.holds Tryz.pinned (.plain (OpenSpec.upto formatFourballsSpec)) formatFourballsUptoCard

/-- THE SECOND FORM's CARD OF 'niblicklaw05.FormatTies'. -/
def formatTiesUptoCard : Claim7 := { stood := { row := formatTiesUptoRow, standIns := [], harness := (true, "8009b3c18f49961368168474dfe81e8ea81aff018f4328e04b58e5c0c594abda"), looks := false }, kinds := [], alts := [], laidByText := true, laidKinds := [.data, .data, .data], laidTests := true, laidLooks := .later }
def FormatTiesUptoCardSaid : Prop := Claim7.holds Tryz.pinned (.plain (OpenSpec.upto formatTiesSpec)) formatTiesUptoCard

/-- THE SECOND FORM's CARD OF 'niblicklaw05.FormatSums'. -/
def formatSumsUptoCard : Claim7 := { stood := { row := formatSumsUptoRow, standIns := [], harness := (true, "8009b3c18f49961368168474dfe81e8ea81aff018f4328e04b58e5c0c594abda"), looks := false }, kinds := [], alts := [], laidByText := true, laidKinds := [.data, .data, .data], laidTests := true, laidLooks := .later }
def FormatSumsUptoCardSaid : Prop := Claim7.holds Tryz.pinned (.plain (OpenSpec.upto formatSumsSpec)) formatSumsUptoCard

/-- THE SECOND FORM's CARD OF 'niblicklaw05.FormatPreorder'. -/
def formatPreorderUptoCard : Claim7 := { stood := { row := formatPreorderUptoRow, standIns := [], harness := (true, "8009b3c18f49961368168474dfe81e8ea81aff018f4328e04b58e5c0c594abda"), looks := false }, kinds := [], alts := [], laidByText := true, laidKinds := [.data, .data, .data], laidTests := true, laidLooks := .later }
def FormatPreorderUptoCardSaid : Prop := Claim7.holds Tryz.pinned (.plain (OpenSpec.upto formatPreorderSpec)) formatPreorderUptoCard

/-- THE SECOND FORM's CARD OF 'niblicklaw05.FormatAlone'. -/
def formatAloneUptoCard : Claim7 := { stood := { row := formatAloneUptoRow, standIns := [], harness := (true, "8009b3c18f49961368168474dfe81e8ea81aff018f4328e04b58e5c0c594abda"), looks := false }, kinds := [], alts := [], laidByText := true, laidKinds := [.data, .data, .data], laidTests := true, laidLooks := .later }
def FormatAloneUptoCardSaid : Prop := Claim7.holds Tryz.pinned (.plain (OpenSpec.upto formatAloneSpec)) formatAloneUptoCard

/-- THE SECOND FORM's CARD OF 'niblicklaw05.FormatScores'. -/
def formatScoresUptoCard : Claim7 := { stood := { row := formatScoresUptoRow, standIns := [], harness := (true, "8009b3c18f49961368168474dfe81e8ea81aff018f4328e04b58e5c0c594abda"), looks := false }, kinds := [], alts := [], laidByText := true, laidKinds := [.data, .data, .data], laidTests := true, laidLooks := .later }
def FormatScoresUptoCardSaid : Prop := Claim7.holds Tryz.pinned (.plain (OpenSpec.upto formatScoresSpec)) formatScoresUptoCard

/-- THE SECOND FORM's CARD OF 'niblicklaw05.FormatSides'. -/
def formatSidesUptoCard : Claim7 := { stood := { row := formatSidesUptoRow, standIns := [], harness := (true, "8009b3c18f49961368168474dfe81e8ea81aff018f4328e04b58e5c0c594abda"), looks := false }, kinds := [], alts := [], laidByText := true, laidKinds := [.data, .data, .data], laidTests := true, laidLooks := .later }
def FormatSidesUptoCardSaid : Prop := Claim7.holds Tryz.pinned (.plain (OpenSpec.upto formatSidesSpec)) formatSidesUptoCard

/-- THE SECOND FORM's CARD OF 'niblicklaw05.FormatTurned'. -/
def formatTurnedUptoCard : Claim7 := { stood := { row := formatTurnedUptoRow, standIns := [], harness := (true, "8009b3c18f49961368168474dfe81e8ea81aff018f4328e04b58e5c0c594abda"), looks := false }, kinds := [], alts := [], laidByText := true, laidKinds := [.data, .data, .data], laidTests := true, laidLooks := .later }
def FormatTurnedUptoCardSaid : Prop := Claim7.holds Tryz.pinned (.plain (OpenSpec.upto formatTurnedSpec)) formatTurnedUptoCard

/-- THE SECOND FORM's CARD OF 'niblicklaw05.FormatLeads'. -/
def formatLeadsUptoCard : Claim7 := { stood := { row := formatLeadsUptoRow, standIns := [], harness := (true, "8009b3c18f49961368168474dfe81e8ea81aff018f4328e04b58e5c0c594abda"), looks := false }, kinds := [], alts := [], laidByText := true, laidKinds := [.data, .data, .data], laidTests := true, laidLooks := .later }
def FormatLeadsUptoCardSaid : Prop := Claim7.holds Tryz.pinned (.plain (OpenSpec.upto formatLeadsSpec)) formatLeadsUptoCard
end Rows
end Go.Proofs.YtanpmgfaieekhaaGreatDoor
