/-
  DERIVED. GIVEN WITH THE SEED: THE CARDS: each row of YtjhoaknnmfifgaaGreatDoorRows.lean that lists a variable, with what it lists TIED to the program's text (the seventh form; the later family's looks); each row that meets fmt, with fmt's text TOLD by the authors' own Lean function (tested against real Go, not proved from fmt's source: count such statements apart). THE CARD IS WHAT COUNTS. Prove the row's statement (the work); the ties are given (YtjhoaknnmfifgaaGreatDoorTie.lean); close each card by the builder's one call (the guide's Derived/Test/ToyasCard.lean, 'card_holds'). Laid BY PROGRAM, IN A SANDBOX (cutbox-door.mjs). By AI agents, Wed Nov 11 2026. No macro, syntax, notation, axiom, sorry.
-/
import Derived.Test.YtjhoaknnmfifgaaGreatDoorRows
import GoSem.ClaimSeven
namespace Go.Proofs.YtjhoaknnmfifgaaGreatDoor
namespace Rows

/-- THE TIED CARD OF 'niblicklaw10.UnionCards'. -/
def unionCardsCard : Claim7 := { stood := { row := unionCardsRow, standIns := [], harness := (true, "6fd77963fc8f73d9e36bc3de187e9a1e9370ba5596a484581e275bcd2ae2c10c"), looks := true }, kinds := [], alts := [], laidByText := true, laidKinds := [.data, .data, .data, .data, .sentinel, .sentinel, .pinned], laidTests := true, laidLooks := .later }
def UnionCardsCardSaid : Prop := Claim7.holds Tryz.pinned (.plain (OpenSpec.ofChange unionCardsSpec)) unionCardsCard

/-- THE TIED CARD OF 'niblicklaw10.UnionBoards'. -/
def unionBoardsCard : Claim7 := { stood := { row := unionBoardsRow, standIns := [], harness := (true, "6fd77963fc8f73d9e36bc3de187e9a1e9370ba5596a484581e275bcd2ae2c10c"), looks := true }, kinds := [], alts := [], laidByText := true, laidKinds := [.data, .data, .data, .data, .sentinel, .sentinel, .pinned], laidTests := true, laidLooks := .later }
def UnionBoardsCardSaid : Prop := Claim7.holds Tryz.pinned (.plain (OpenSpec.ofChange unionBoardsSpec)) unionBoardsCard

/-- THE TIED CARD OF 'niblicklaw10.UnionSigns'. -/
def unionSignsCard : Claim7 := { stood := { row := unionSignsRow, standIns := [], harness := (true, "6fd77963fc8f73d9e36bc3de187e9a1e9370ba5596a484581e275bcd2ae2c10c"), looks := true }, kinds := [], alts := [], laidByText := true, laidKinds := [.data, .data, .data, .data, .sentinel, .sentinel, .pinned], laidTests := true, laidLooks := .later }
def UnionSignsCardSaid : Prop := Claim7.holds Tryz.pinned (.plain (OpenSpec.ofChange unionSignsSpec)) unionSignsCard

/-- THE TIED CARD OF 'niblicklaw10.UnionOrdered'. -/
def unionOrderedCard : Claim7 := { stood := { row := unionOrderedRow, standIns := [], harness := (true, "6fd77963fc8f73d9e36bc3de187e9a1e9370ba5596a484581e275bcd2ae2c10c"), looks := true }, kinds := [], alts := [], laidByText := true, laidKinds := [.data, .data, .data, .data, .sentinel, .sentinel, .pinned], laidTests := true, laidLooks := .later }
def UnionOrderedCardSaid : Prop := Claim7.holds Tryz.pinned (.plain (OpenSpec.ofChange unionOrderedSpec)) unionOrderedCard

/-- THE TIED CARD OF 'niblicklaw10.UnionEvents'. -/
def unionEventsCard : Claim7 := { stood := { row := unionEventsRow, standIns := [], harness := (true, "6fd77963fc8f73d9e36bc3de187e9a1e9370ba5596a484581e275bcd2ae2c10c"), looks := true }, kinds := [], alts := [], laidByText := true, laidKinds := [.data, .data, .data, .data, .sentinel, .sentinel, .pinned], laidTests := true, laidLooks := .later }
def UnionEventsCardSaid : Prop := Claim7.holds Tryz.pinned (.plain (OpenSpec.ofChange unionEventsSpec)) unionEventsCard

/-- THE TIED CARD OF 'niblicklaw10.UnionSessions'. -/
def unionSessionsCard : Claim7 := { stood := { row := unionSessionsRow, standIns := [], harness := (true, "6fd77963fc8f73d9e36bc3de187e9a1e9370ba5596a484581e275bcd2ae2c10c"), looks := true }, kinds := [], alts := [], laidByText := true, laidKinds := [.data, .data, .data, .data, .sentinel, .sentinel, .pinned], laidTests := true, laidLooks := .later }
def UnionSessionsCardSaid : Prop := Claim7.holds Tryz.pinned (.plain (OpenSpec.ofChange unionSessionsSpec)) unionSessionsCard

/-- THE TIED CARD OF 'niblicklaw10.UnionLogs'. -/
def unionLogsCard : Claim7 := { stood := { row := unionLogsRow, standIns := [], harness := (true, "6fd77963fc8f73d9e36bc3de187e9a1e9370ba5596a484581e275bcd2ae2c10c"), looks := true }, kinds := [], alts := [], laidByText := true, laidKinds := [.data, .data, .data, .data, .sentinel, .sentinel, .pinned], laidTests := true, laidLooks := .later }
def UnionLogsCardSaid : Prop := Claim7.holds Tryz.pinned (.plain (OpenSpec.ofChange unionLogsSpec)) unionLogsCard

/-- THE TIED CARD OF 'niblicklaw10.UnionTorn'. -/
def unionTornCard : Claim7 := { stood := { row := unionTornRow, standIns := [], harness := (true, "6fd77963fc8f73d9e36bc3de187e9a1e9370ba5596a484581e275bcd2ae2c10c"), looks := true }, kinds := [], alts := [], laidByText := true, laidKinds := [.data, .data, .data, .data, .sentinel, .sentinel, .pinned], laidTests := true, laidLooks := .later }
def UnionTornCardSaid : Prop := Claim7.holds Tryz.pinned (.plain (OpenSpec.ofChange unionTornSpec)) unionTornCard

/-- THE TIED CARD OF 'niblicklaw10.UnionFollowers'. -/
def unionFollowersCard : Claim7 := { stood := { row := unionFollowersRow, standIns := [], harness := (true, "6fd77963fc8f73d9e36bc3de187e9a1e9370ba5596a484581e275bcd2ae2c10c"), looks := true }, kinds := [], alts := [], laidByText := true, laidKinds := [.data, .data, .data, .data, .sentinel, .sentinel, .pinned], laidTests := true, laidLooks := .later }
def UnionFollowersCardSaid : Prop := Claim7.holds Tryz.pinned (.plain (OpenSpec.ofChange unionFollowersSpec)) unionFollowersCard

/-- THE TIED CARD OF 'niblicklaw10.UnionArrives'. -/
def unionArrivesCard : Claim7 := { stood := { row := unionArrivesRow, standIns := [], harness := (true, "6fd77963fc8f73d9e36bc3de187e9a1e9370ba5596a484581e275bcd2ae2c10c"), looks := true }, kinds := [], alts := [], laidByText := true, laidKinds := [.data, .data, .data, .data, .sentinel, .sentinel, .pinned], laidTests := true, laidLooks := .later }
def UnionArrivesCardSaid : Prop := Claim7.holds Tryz.pinned (.plain (OpenSpec.ofChange unionArrivesSpec)) unionArrivesCard

/-- THE SECOND FORM's CARD OF 'niblicklaw10.UnionCards'. -/
def unionCardsUptoCard : Claim7 := { stood := { row := unionCardsUptoRow, standIns := [], harness := (true, "6fd77963fc8f73d9e36bc3de187e9a1e9370ba5596a484581e275bcd2ae2c10c"), looks := true }, kinds := [], alts := [], laidByText := true, laidKinds := [.data, .data, .data, .data, .sentinel, .sentinel, .pinned], laidTests := true, laidLooks := .later }
def UnionCardsUptoCardSaid : Prop := Claim7.holds Tryz.pinned (.plain (OpenSpec.upto unionCardsSpec)) unionCardsUptoCard

/-- THE SECOND FORM's CARD OF 'niblicklaw10.UnionBoards'. -/
def unionBoardsUptoCard : Claim7 := { stood := { row := unionBoardsUptoRow, standIns := [], harness := (true, "6fd77963fc8f73d9e36bc3de187e9a1e9370ba5596a484581e275bcd2ae2c10c"), looks := true }, kinds := [], alts := [], laidByText := true, laidKinds := [.data, .data, .data, .data, .sentinel, .sentinel, .pinned], laidTests := true, laidLooks := .later }
def UnionBoardsUptoCardSaid : Prop := Claim7.holds Tryz.pinned (.plain (OpenSpec.upto unionBoardsSpec)) unionBoardsUptoCard

/-- THE SECOND FORM's CARD OF 'niblicklaw10.UnionSigns'. -/
def unionSignsUptoCard : Claim7 := { stood := { row := unionSignsUptoRow, standIns := [], harness := (true, "6fd77963fc8f73d9e36bc3de187e9a1e9370ba5596a484581e275bcd2ae2c10c"), looks := true }, kinds := [], alts := [], laidByText := true, laidKinds := [.data, .data, .data, .data, .sentinel, .sentinel, .pinned], laidTests := true, laidLooks := .later }
def UnionSignsUptoCardSaid : Prop := Claim7.holds Tryz.pinned (.plain (OpenSpec.upto unionSignsSpec)) unionSignsUptoCard

/-- THE SECOND FORM's CARD OF 'niblicklaw10.UnionOrdered'. -/
def unionOrderedUptoCard : Claim7 := { stood := { row := unionOrderedUptoRow, standIns := [], harness := (true, "6fd77963fc8f73d9e36bc3de187e9a1e9370ba5596a484581e275bcd2ae2c10c"), looks := true }, kinds := [], alts := [], laidByText := true, laidKinds := [.data, .data, .data, .data, .sentinel, .sentinel, .pinned], laidTests := true, laidLooks := .later }
def UnionOrderedUptoCardSaid : Prop := Claim7.holds Tryz.pinned (.plain (OpenSpec.upto unionOrderedSpec)) unionOrderedUptoCard

/-- THE SECOND FORM's CARD OF 'niblicklaw10.UnionEvents'. -/
def unionEventsUptoCard : Claim7 := { stood := { row := unionEventsUptoRow, standIns := [], harness := (true, "6fd77963fc8f73d9e36bc3de187e9a1e9370ba5596a484581e275bcd2ae2c10c"), looks := true }, kinds := [], alts := [], laidByText := true, laidKinds := [.data, .data, .data, .data, .sentinel, .sentinel, .pinned], laidTests := true, laidLooks := .later }
def UnionEventsUptoCardSaid : Prop := Claim7.holds Tryz.pinned (.plain (OpenSpec.upto unionEventsSpec)) unionEventsUptoCard

/-- THE SECOND FORM's CARD OF 'niblicklaw10.UnionSessions'. -/
def unionSessionsUptoCard : Claim7 := { stood := { row := unionSessionsUptoRow, standIns := [], harness := (true, "6fd77963fc8f73d9e36bc3de187e9a1e9370ba5596a484581e275bcd2ae2c10c"), looks := true }, kinds := [], alts := [], laidByText := true, laidKinds := [.data, .data, .data, .data, .sentinel, .sentinel, .pinned], laidTests := true, laidLooks := .later }
def UnionSessionsUptoCardSaid : Prop := Claim7.holds Tryz.pinned (.plain (OpenSpec.upto unionSessionsSpec)) unionSessionsUptoCard

/-- THE SECOND FORM's CARD OF 'niblicklaw10.UnionLogs'. -/
def unionLogsUptoCard : Claim7 := { stood := { row := unionLogsUptoRow, standIns := [], harness := (true, "6fd77963fc8f73d9e36bc3de187e9a1e9370ba5596a484581e275bcd2ae2c10c"), looks := true }, kinds := [], alts := [], laidByText := true, laidKinds := [.data, .data, .data, .data, .sentinel, .sentinel, .pinned], laidTests := true, laidLooks := .later }
def UnionLogsUptoCardSaid : Prop := Claim7.holds Tryz.pinned (.plain (OpenSpec.upto unionLogsSpec)) unionLogsUptoCard

/-- THE SECOND FORM's CARD OF 'niblicklaw10.UnionTorn'. -/
def unionTornUptoCard : Claim7 := { stood := { row := unionTornUptoRow, standIns := [], harness := (true, "6fd77963fc8f73d9e36bc3de187e9a1e9370ba5596a484581e275bcd2ae2c10c"), looks := true }, kinds := [], alts := [], laidByText := true, laidKinds := [.data, .data, .data, .data, .sentinel, .sentinel, .pinned], laidTests := true, laidLooks := .later }
def UnionTornUptoCardSaid : Prop := Claim7.holds Tryz.pinned (.plain (OpenSpec.upto unionTornSpec)) unionTornUptoCard

/-- THE SECOND FORM's CARD OF 'niblicklaw10.UnionFollowers'. -/
def unionFollowersUptoCard : Claim7 := { stood := { row := unionFollowersUptoRow, standIns := [], harness := (true, "6fd77963fc8f73d9e36bc3de187e9a1e9370ba5596a484581e275bcd2ae2c10c"), looks := true }, kinds := [], alts := [], laidByText := true, laidKinds := [.data, .data, .data, .data, .sentinel, .sentinel, .pinned], laidTests := true, laidLooks := .later }
def UnionFollowersUptoCardSaid : Prop := Claim7.holds Tryz.pinned (.plain (OpenSpec.upto unionFollowersSpec)) unionFollowersUptoCard

/-- THE SECOND FORM's CARD OF 'niblicklaw10.UnionArrives'. -/
def unionArrivesUptoCard : Claim7 := { stood := { row := unionArrivesUptoRow, standIns := [], harness := (true, "6fd77963fc8f73d9e36bc3de187e9a1e9370ba5596a484581e275bcd2ae2c10c"), looks := true }, kinds := [], alts := [], laidByText := true, laidKinds := [.data, .data, .data, .data, .sentinel, .sentinel, .pinned], laidTests := true, laidLooks := .later }
def UnionArrivesUptoCardSaid : Prop := Claim7.holds Tryz.pinned (.plain (OpenSpec.upto unionArrivesSpec)) unionArrivesUptoCard
end Rows
end Go.Proofs.YtjhoaknnmfifgaaGreatDoor
