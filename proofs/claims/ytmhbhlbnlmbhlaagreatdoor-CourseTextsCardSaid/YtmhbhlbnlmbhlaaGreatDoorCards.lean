/-
  DERIVED. GIVEN WITH THE SEED: THE CARDS: each row of YtmhbhlbnlmbhlaaGreatDoorRows.lean that lists a variable, with what it lists TIED to the program's text (the seventh form; the later family's looks); each row that meets fmt, with fmt's text TOLD by the authors' own Lean function (tested against real Go, not proved from fmt's source: count such statements apart). THE CARD IS WHAT COUNTS. Prove the row's statement (the work); the ties are given (YtmhbhlbnlmbhlaaGreatDoorTie.lean); close each card by the builder's one call (the guide's Derived/Test/ToyasCard.lean, 'card_holds'). Laid BY PROGRAM, IN A SANDBOX (cutbox-door.mjs). By AI agents, Wed Nov 11 2026. No macro, syntax, notation, axiom, sorry.
-/
import Derived.Test.YtmhbhlbnlmbhlaaGreatDoorRows
import GoSem.ClaimSeven
namespace Go.Proofs.YtmhbhlbnlmbhlaaGreatDoor
namespace Rows

/-- THE TIED CARD OF 'niblicklaw02.CourseAreas'. -/
def courseAreasCard : Claim7 := { stood := { row := courseAreasRow, standIns := [], harness := (true, "4ff72d5a0fb39f55855ba6dd7050c1bf8163202a223b41d630507daed42dba24"), looks := true }, kinds := [], alts := [], laidByText := true, laidKinds := [.data, .data, .data, .widerDeep], laidTests := true, laidLooks := .later }
def CourseAreasCardSaid : Prop := Claim7.holds Tryz.pinned (.plain (OpenSpec.ofChange courseAreasSpec)) courseAreasCard

/-- THE TIED CARD OF 'niblicklaw02.CourseWays'. -/
def courseWaysCard : Claim7 := { stood := { row := courseWaysRow, standIns := [], harness := (true, "4ff72d5a0fb39f55855ba6dd7050c1bf8163202a223b41d630507daed42dba24"), looks := true }, kinds := [], alts := [], laidByText := true, laidKinds := [.data, .data, .data, .widerDeep], laidTests := true, laidLooks := .later }
def CourseWaysCardSaid : Prop := Claim7.holds Tryz.pinned (.plain (OpenSpec.ofChange courseWaysSpec)) courseWaysCard

/-- THE TIED CARD OF 'niblicklaw02.CourseReliefs'. -/
def courseReliefsCard : Claim7 := { stood := { row := courseReliefsRow, standIns := [], harness := (true, "4ff72d5a0fb39f55855ba6dd7050c1bf8163202a223b41d630507daed42dba24"), looks := true }, kinds := [], alts := [], laidByText := true, laidKinds := [.data, .data, .data, .widerDeep], laidTests := true, laidLooks := .later }
def CourseReliefsCardSaid : Prop := Claim7.holds Tryz.pinned (.plain (OpenSpec.ofChange courseReliefsSpec)) courseReliefsCard

/-- THE TIED CARD OF 'niblicklaw02.CourseUpkeep'. -/
def courseUpkeepCard : Claim7 := { stood := { row := courseUpkeepRow, standIns := [], harness := (true, "4ff72d5a0fb39f55855ba6dd7050c1bf8163202a223b41d630507daed42dba24"), looks := true }, kinds := [], alts := [], laidByText := true, laidKinds := [.data, .data, .data, .widerDeep], laidTests := true, laidLooks := .later }
def CourseUpkeepCardSaid : Prop := Claim7.holds Tryz.pinned (.plain (OpenSpec.ofChange courseUpkeepSpec)) courseUpkeepCard

/-- THE TIED CARD OF 'niblicklaw02.CourseOneArea'. -/
def courseOneAreaCard : Claim7 := { stood := { row := courseOneAreaRow, standIns := [], harness := (true, "4ff72d5a0fb39f55855ba6dd7050c1bf8163202a223b41d630507daed42dba24"), looks := true }, kinds := [], alts := [], laidByText := true, laidKinds := [.data, .data, .data, .widerDeep], laidTests := true, laidLooks := .later }
def CourseOneAreaCardSaid : Prop := Claim7.holds Tryz.pinned (.plain (OpenSpec.ofChange courseOneAreaSpec)) courseOneAreaCard

/-- THE TIED CARD OF 'niblicklaw02.CourseNearest'. -/
def courseNearestCard : Claim7 := { stood := { row := courseNearestRow, standIns := [], harness := (true, "4ff72d5a0fb39f55855ba6dd7050c1bf8163202a223b41d630507daed42dba24"), looks := true }, kinds := [], alts := [], laidByText := true, laidKinds := [.data, .data, .data, .widerDeep], laidTests := true, laidLooks := .later }
def CourseNearestCardSaid : Prop := Claim7.holds Tryz.pinned (.plain (OpenSpec.ofChange courseNearestSpec)) courseNearestCard

/-- THE TIED CARD OF 'niblicklaw02.CoursePolygons'. -/
def coursePolygonsCard : Claim7 := { stood := { row := coursePolygonsRow, standIns := [], harness := (true, "4ff72d5a0fb39f55855ba6dd7050c1bf8163202a223b41d630507daed42dba24"), looks := true }, kinds := [], alts := [], laidByText := true, laidKinds := [.data, .data, .data, .widerDeep], laidTests := true, laidLooks := .later }
def CoursePolygonsCardSaid : Prop := Claim7.holds Tryz.pinned (.plain (OpenSpec.ofChange coursePolygonsSpec)) coursePolygonsCard

/-- THE TIED CARD OF 'niblicklaw02.CourseDays'. -/
def courseDaysCard : Claim7 := { stood := { row := courseDaysRow, standIns := [], harness := (true, "4ff72d5a0fb39f55855ba6dd7050c1bf8163202a223b41d630507daed42dba24"), looks := true }, kinds := [], alts := [], laidByText := true, laidKinds := [.data, .data, .data, .widerDeep], laidTests := true, laidLooks := .later }
def CourseDaysCardSaid : Prop := Claim7.holds Tryz.pinned (.plain (OpenSpec.ofChange courseDaysSpec)) courseDaysCard

/-- THE TIED CARD OF 'niblicklaw02.CoursePlanned'. -/
def coursePlannedCard : Claim7 := { stood := { row := coursePlannedRow, standIns := [], harness := (true, "4ff72d5a0fb39f55855ba6dd7050c1bf8163202a223b41d630507daed42dba24"), looks := true }, kinds := [], alts := [], laidByText := true, laidKinds := [.data, .data, .data, .widerDeep], laidTests := true, laidLooks := .later }
def CoursePlannedCardSaid : Prop := Claim7.holds Tryz.pinned (.plain (OpenSpec.ofChange coursePlannedSpec)) coursePlannedCard

/-- THE TIED CARD OF 'niblicklaw02.CourseMoves'. -/
def courseMovesCard : Claim7 := { stood := { row := courseMovesRow, standIns := [], harness := (true, "4ff72d5a0fb39f55855ba6dd7050c1bf8163202a223b41d630507daed42dba24"), looks := true }, kinds := [], alts := [], laidByText := true, laidKinds := [.data, .data, .data, .widerDeep], laidTests := true, laidLooks := .later }
def CourseMovesCardSaid : Prop := Claim7.holds Tryz.pinned (.plain (OpenSpec.ofChange courseMovesSpec)) courseMovesCard

/-- THE TIED CARD OF 'niblicklaw02.CourseKept'. -/
def courseKeptCard : Claim7 := { stood := { row := courseKeptRow, standIns := [], harness := (true, "4ff72d5a0fb39f55855ba6dd7050c1bf8163202a223b41d630507daed42dba24"), looks := true }, kinds := [], alts := [], laidByText := true, laidKinds := [.data, .data, .data, .widerDeep], laidTests := true, laidLooks := .later }
def CourseKeptCardSaid : Prop := Claim7.holds Tryz.pinned (.plain (OpenSpec.ofChange courseKeptSpec)) courseKeptCard

/-- THE TIED CARD OF 'niblicklaw02.CourseTexts'. -/
def courseTextsCard : Claim7 := { stood := { row := courseTextsRow, standIns := [], harness := (true, "4ff72d5a0fb39f55855ba6dd7050c1bf8163202a223b41d630507daed42dba24"), looks := true }, kinds := [], alts := [], laidByText := true, laidKinds := [.data, .data, .data, .data, .sentinel, .sentinel, .widerDeep, .pinned], laidTests := true, laidLooks := .later }
def CourseTextsCardSaid : Prop := Claim7.holds Tryz.pinned (.plain (OpenSpec.ofChange courseTextsSpec)) courseTextsCard

/-- THE SECOND FORM's CARD OF 'niblicklaw02.CourseAreas'. -/
def courseAreasUptoCard : Claim7 := { stood := { row := courseAreasUptoRow, standIns := [], harness := (true, "4ff72d5a0fb39f55855ba6dd7050c1bf8163202a223b41d630507daed42dba24"), looks := true }, kinds := [], alts := [], laidByText := true, laidKinds := [.data, .data, .data, .widerDeep], laidTests := true, laidLooks := .later }
def CourseAreasUptoCardSaid : Prop := Claim7.holds Tryz.pinned (.plain (OpenSpec.upto courseAreasSpec)) courseAreasUptoCard

/-- THE SECOND FORM's CARD OF 'niblicklaw02.CourseWays'. -/
def courseWaysUptoCard : Claim7 := { stood := { row := courseWaysUptoRow, standIns := [], harness := (true, "4ff72d5a0fb39f55855ba6dd7050c1bf8163202a223b41d630507daed42dba24"), looks := true }, kinds := [], alts := [], laidByText := true, laidKinds := [.data, .data, .data, .widerDeep], laidTests := true, laidLooks := .later }
def CourseWaysUptoCardSaid : Prop := Claim7.holds Tryz.pinned (.plain (OpenSpec.upto courseWaysSpec)) courseWaysUptoCard

/-- THE SECOND FORM's CARD OF 'niblicklaw02.CourseReliefs'. -/
def courseReliefsUptoCard : Claim7 := { stood := { row := courseReliefsUptoRow, standIns := [], harness := (true, "4ff72d5a0fb39f55855ba6dd7050c1bf8163202a223b41d630507daed42dba24"), looks := true }, kinds := [], alts := [], laidByText := true, laidKinds := [.data, .data, .data, .widerDeep], laidTests := true, laidLooks := .later }
def CourseReliefsUptoCardSaid : Prop := Claim7.holds Tryz.pinned (.plain (OpenSpec.upto courseReliefsSpec)) courseReliefsUptoCard

/-- THE SECOND FORM's CARD OF 'niblicklaw02.CourseUpkeep'. -/
def courseUpkeepUptoCard : Claim7 := { stood := { row := courseUpkeepUptoRow, standIns := [], harness := (true, "4ff72d5a0fb39f55855ba6dd7050c1bf8163202a223b41d630507daed42dba24"), looks := true }, kinds := [], alts := [], laidByText := true, laidKinds := [.data, .data, .data, .widerDeep], laidTests := true, laidLooks := .later }
def CourseUpkeepUptoCardSaid : Prop := Claim7.holds Tryz.pinned (.plain (OpenSpec.upto courseUpkeepSpec)) courseUpkeepUptoCard

/-- THE SECOND FORM's CARD OF 'niblicklaw02.CourseOneArea'. -/
def courseOneAreaUptoCard : Claim7 := { stood := { row := courseOneAreaUptoRow, standIns := [], harness := (true, "4ff72d5a0fb39f55855ba6dd7050c1bf8163202a223b41d630507daed42dba24"), looks := true }, kinds := [], alts := [], laidByText := true, laidKinds := [.data, .data, .data, .widerDeep], laidTests := true, laidLooks := .later }
def CourseOneAreaUptoCardSaid : Prop := Claim7.holds Tryz.pinned (.plain (OpenSpec.upto courseOneAreaSpec)) courseOneAreaUptoCard

/-- THE SECOND FORM's CARD OF 'niblicklaw02.CourseNearest'. -/
def courseNearestUptoCard : Claim7 := { stood := { row := courseNearestUptoRow, standIns := [], harness := (true, "4ff72d5a0fb39f55855ba6dd7050c1bf8163202a223b41d630507daed42dba24"), looks := true }, kinds := [], alts := [], laidByText := true, laidKinds := [.data, .data, .data, .widerDeep], laidTests := true, laidLooks := .later }
def CourseNearestUptoCardSaid : Prop := Claim7.holds Tryz.pinned (.plain (OpenSpec.upto courseNearestSpec)) courseNearestUptoCard

/-- THE SECOND FORM's CARD OF 'niblicklaw02.CoursePolygons'. -/
def coursePolygonsUptoCard : Claim7 := { stood := { row := coursePolygonsUptoRow, standIns := [], harness := (true, "4ff72d5a0fb39f55855ba6dd7050c1bf8163202a223b41d630507daed42dba24"), looks := true }, kinds := [], alts := [], laidByText := true, laidKinds := [.data, .data, .data, .widerDeep], laidTests := true, laidLooks := .later }
def CoursePolygonsUptoCardSaid : Prop := Claim7.holds Tryz.pinned (.plain (OpenSpec.upto coursePolygonsSpec)) coursePolygonsUptoCard

/-- THE SECOND FORM's CARD OF 'niblicklaw02.CourseDays'. -/
def courseDaysUptoCard : Claim7 := { stood := { row := courseDaysUptoRow, standIns := [], harness := (true, "4ff72d5a0fb39f55855ba6dd7050c1bf8163202a223b41d630507daed42dba24"), looks := true }, kinds := [], alts := [], laidByText := true, laidKinds := [.data, .data, .data, .widerDeep], laidTests := true, laidLooks := .later }
def CourseDaysUptoCardSaid : Prop := Claim7.holds Tryz.pinned (.plain (OpenSpec.upto courseDaysSpec)) courseDaysUptoCard

/-- THE SECOND FORM's CARD OF 'niblicklaw02.CoursePlanned'. -/
def coursePlannedUptoCard : Claim7 := { stood := { row := coursePlannedUptoRow, standIns := [], harness := (true, "4ff72d5a0fb39f55855ba6dd7050c1bf8163202a223b41d630507daed42dba24"), looks := true }, kinds := [], alts := [], laidByText := true, laidKinds := [.data, .data, .data, .widerDeep], laidTests := true, laidLooks := .later }
def CoursePlannedUptoCardSaid : Prop := Claim7.holds Tryz.pinned (.plain (OpenSpec.upto coursePlannedSpec)) coursePlannedUptoCard

/-- THE SECOND FORM's CARD OF 'niblicklaw02.CourseMoves'. -/
def courseMovesUptoCard : Claim7 := { stood := { row := courseMovesUptoRow, standIns := [], harness := (true, "4ff72d5a0fb39f55855ba6dd7050c1bf8163202a223b41d630507daed42dba24"), looks := true }, kinds := [], alts := [], laidByText := true, laidKinds := [.data, .data, .data, .widerDeep], laidTests := true, laidLooks := .later }
def CourseMovesUptoCardSaid : Prop := Claim7.holds Tryz.pinned (.plain (OpenSpec.upto courseMovesSpec)) courseMovesUptoCard

/-- THE SECOND FORM's CARD OF 'niblicklaw02.CourseKept'. -/
def courseKeptUptoCard : Claim7 := { stood := { row := courseKeptUptoRow, standIns := [], harness := (true, "4ff72d5a0fb39f55855ba6dd7050c1bf8163202a223b41d630507daed42dba24"), looks := true }, kinds := [], alts := [], laidByText := true, laidKinds := [.data, .data, .data, .widerDeep], laidTests := true, laidLooks := .later }
def CourseKeptUptoCardSaid : Prop := Claim7.holds Tryz.pinned (.plain (OpenSpec.upto courseKeptSpec)) courseKeptUptoCard

/-- THE SECOND FORM's CARD OF 'niblicklaw02.CourseTexts'. -/
def courseTextsUptoCard : Claim7 := { stood := { row := courseTextsUptoRow, standIns := [], harness := (true, "4ff72d5a0fb39f55855ba6dd7050c1bf8163202a223b41d630507daed42dba24"), looks := true }, kinds := [], alts := [], laidByText := true, laidKinds := [.data, .data, .data, .data, .sentinel, .sentinel, .widerDeep, .pinned], laidTests := true, laidLooks := .later }
def CourseTextsUptoCardSaid : Prop := Claim7.holds Tryz.pinned (.plain (OpenSpec.upto courseTextsSpec)) courseTextsUptoCard
end Rows
end Go.Proofs.YtmhbhlbnlmbhlaaGreatDoor
