/-
  DERIVED. GIVEN WITH THE SEED: THE CARDS: each row of YtifjpcdpmimccaaGreatDoorRows.lean that lists a variable, with what it lists TIED to the program's text (the seventh form; the later family's looks); each row that meets fmt, with fmt's text TOLD by the authors' own Lean function (tested against real Go, not proved from fmt's source: count such statements apart). THE CARD IS WHAT COUNTS. Prove the row's statement (the work); the ties are given (YtifjpcdpmimccaaGreatDoorTie.lean); close each card by the builder's one call (the guide's Derived/Test/ToyasCard.lean, 'card_holds'). Laid BY PROGRAM, IN A SANDBOX (cutbox-door.mjs). By AI agents, Wed Nov 11 2026. No macro, syntax, notation, axiom, sorry.
-/
import Derived.Test.YtifjpcdpmimccaaGreatDoorRows
import GoSem.ClaimSeven
namespace Go.Proofs.YtifjpcdpmimccaaGreatDoor
namespace Rows

/-- THE TIED CARD OF 'tannoylaw18.BadgeReads'. -/
def badgeReadsCard : Claim7 := { stood := { row := badgeReadsRow, standIns := [], harness := (true, "ad29d3090969492110dc5a26c31e2a4e01c74477ff0491ed0b38a136f8f546ff"), looks := false }, kinds := [], alts := [], laidByText := true, laidKinds := [.data, .pinned, .pinned], laidTests := true, laidLooks := .later }
def BadgeReadsCardSaid : Prop := Claim7.holds Tryz.pinned (.plain (OpenSpec.ofChange badgeReadsSpec)) badgeReadsCard

/-- THE TIED CARD OF 'tannoylaw18.BadgeBack'. -/
def badgeBackCard : Claim7 := { stood := { row := badgeBackRow, standIns := [], harness := (true, "ad29d3090969492110dc5a26c31e2a4e01c74477ff0491ed0b38a136f8f546ff"), looks := false }, kinds := [], alts := [], laidByText := true, laidKinds := [.data, .pinned, .pinned], laidTests := true, laidLooks := .later }
def BadgeBackCardSaid : Prop := Claim7.holds Tryz.pinned (.plain (OpenSpec.ofChange badgeBackSpec)) badgeBackCard

/-- THE TIED CARD OF 'tannoylaw18.BadgeTampers'. -/
def badgeTampersCard : Claim7 := { stood := { row := badgeTampersRow, standIns := [], harness := (true, "ad29d3090969492110dc5a26c31e2a4e01c74477ff0491ed0b38a136f8f546ff"), looks := false }, kinds := [], alts := [], laidByText := true, laidKinds := [.data, .pinned, .pinned], laidTests := true, laidLooks := .later }
def BadgeTampersCardSaid : Prop := Claim7.holds Tryz.pinned (.plain (OpenSpec.ofChange badgeTampersSpec)) badgeTampersCard

/-- THE TIED CARD OF 'tannoylaw18.BadgeWrites'. -/
def badgeWritesCard : Claim7 := { stood := { row := badgeWritesRow, standIns := [], harness := (true, "ad29d3090969492110dc5a26c31e2a4e01c74477ff0491ed0b38a136f8f546ff"), looks := false }, kinds := [], alts := [], laidByText := true, laidKinds := [.data, .pinned, .pinned], laidTests := true, laidLooks := .later }
def BadgeWritesCardSaid : Prop := Claim7.holds Tryz.pinned (.plain (OpenSpec.ofChange badgeWritesSpec)) badgeWritesCard

/-- THE TIED CARD OF 'tannoylaw18.BadgeMatches'. -/
def badgeMatchesCard : Claim7 := { stood := { row := badgeMatchesRow, standIns := [], harness := (true, "ad29d3090969492110dc5a26c31e2a4e01c74477ff0491ed0b38a136f8f546ff"), looks := false }, kinds := [], alts := [], laidByText := true, laidKinds := [.data, .pinned, .pinned], laidTests := true, laidLooks := .later }
def BadgeMatchesCardSaid : Prop := Claim7.holds Tryz.pinned (.plain (OpenSpec.ofChange badgeMatchesSpec)) badgeMatchesCard

/-- THE TIED CARD OF 'tannoylaw18.BadgeKnown'. -/
def badgeKnownCard : Claim7 := { stood := { row := badgeKnownRow, standIns := [], harness := (true, "ad29d3090969492110dc5a26c31e2a4e01c74477ff0491ed0b38a136f8f546ff"), looks := false }, kinds := [], alts := [], laidByText := true, laidKinds := [.data, .pinned, .pinned], laidTests := true, laidLooks := .later }
def BadgeKnownCardSaid : Prop := Claim7.holds Tryz.pinned (.plain (OpenSpec.ofChange badgeKnownSpec)) badgeKnownCard

/-- THE TIED CARD OF 'tannoylaw18.BadgeLists'. -/
def badgeListsCard : Claim7 := { stood := { row := badgeListsRow, standIns := [], harness := (true, "ad29d3090969492110dc5a26c31e2a4e01c74477ff0491ed0b38a136f8f546ff"), looks := false }, kinds := [], alts := [], laidByText := true, laidKinds := [.data, .pinned, .pinned], laidTests := true, laidLooks := .later }
def BadgeListsCardSaid : Prop := Claim7.holds Tryz.pinned (.plain (OpenSpec.ofChange badgeListsSpec)) badgeListsCard

/-- THE SECOND FORM's CARD OF 'tannoylaw18.BadgeReads'. -/
def badgeReadsUptoCard : Claim7 := { stood := { row := badgeReadsUptoRow, standIns := [], harness := (true, "ad29d3090969492110dc5a26c31e2a4e01c74477ff0491ed0b38a136f8f546ff"), looks := false }, kinds := [], alts := [], laidByText := true, laidKinds := [.data, .pinned, .pinned], laidTests := true, laidLooks := .later }
def BadgeReadsUptoCardSaid : Prop := Claim7.holds Tryz.pinned (.plain (OpenSpec.upto badgeReadsSpec)) badgeReadsUptoCard

/-- THE SECOND FORM's CARD OF 'tannoylaw18.BadgeBack'. -/
def badgeBackUptoCard : Claim7 := { stood := { row := badgeBackUptoRow, standIns := [], harness := (true, "ad29d3090969492110dc5a26c31e2a4e01c74477ff0491ed0b38a136f8f546ff"), looks := false }, kinds := [], alts := [], laidByText := true, laidKinds := [.data, .pinned, .pinned], laidTests := true, laidLooks := .later }
def BadgeBackUptoCardSaid : Prop := Claim7.holds Tryz.pinned (.plain (OpenSpec.upto badgeBackSpec)) badgeBackUptoCard

/-- THE SECOND FORM's CARD OF 'tannoylaw18.BadgeTampers'. -/
def badgeTampersUptoCard : Claim7 := { stood := { row := badgeTampersUptoRow, standIns := [], harness := (true, "ad29d3090969492110dc5a26c31e2a4e01c74477ff0491ed0b38a136f8f546ff"), looks := false }, kinds := [], alts := [], laidByText := true, laidKinds := [.data, .pinned, .pinned], laidTests := true, laidLooks := .later }
def BadgeTampersUptoCardSaid : Prop := Claim7.holds Tryz.pinned (.plain (OpenSpec.upto badgeTampersSpec)) badgeTampersUptoCard

/-- THE SECOND FORM's CARD OF 'tannoylaw18.BadgeWrites'. -/
def badgeWritesUptoCard : Claim7 := { stood := { row := badgeWritesUptoRow, standIns := [], harness := (true, "ad29d3090969492110dc5a26c31e2a4e01c74477ff0491ed0b38a136f8f546ff"), looks := false }, kinds := [], alts := [], laidByText := true, laidKinds := [.data, .pinned, .pinned], laidTests := true, laidLooks := .later }
def BadgeWritesUptoCardSaid : Prop := Claim7.holds Tryz.pinned (.plain (OpenSpec.upto badgeWritesSpec)) badgeWritesUptoCard

/-- THE SECOND FORM's CARD OF 'tannoylaw18.BadgeMatches'. -/
def badgeMatchesUptoCard : Claim7 := { stood := { row := badgeMatchesUptoRow, standIns := [], harness := (true, "ad29d3090969492110dc5a26c31e2a4e01c74477ff0491ed0b38a136f8f546ff"), looks := false }, kinds := [], alts := [], laidByText := true, laidKinds := [.data, .pinned, .pinned], laidTests := true, laidLooks := .later }
def BadgeMatchesUptoCardSaid : Prop := Claim7.holds Tryz.pinned (.plain (OpenSpec.upto badgeMatchesSpec)) badgeMatchesUptoCard

/-- THE SECOND FORM's CARD OF 'tannoylaw18.BadgeKnown'. -/
def badgeKnownUptoCard : Claim7 := { stood := { row := badgeKnownUptoRow, standIns := [], harness := (true, "ad29d3090969492110dc5a26c31e2a4e01c74477ff0491ed0b38a136f8f546ff"), looks := false }, kinds := [], alts := [], laidByText := true, laidKinds := [.data, .pinned, .pinned], laidTests := true, laidLooks := .later }
def BadgeKnownUptoCardSaid : Prop := Claim7.holds Tryz.pinned (.plain (OpenSpec.upto badgeKnownSpec)) badgeKnownUptoCard

/-- THE SECOND FORM's CARD OF 'tannoylaw18.BadgeLists'. -/
def badgeListsUptoCard : Claim7 := { stood := { row := badgeListsUptoRow, standIns := [], harness := (true, "ad29d3090969492110dc5a26c31e2a4e01c74477ff0491ed0b38a136f8f546ff"), looks := false }, kinds := [], alts := [], laidByText := true, laidKinds := [.data, .pinned, .pinned], laidTests := true, laidLooks := .later }
def BadgeListsUptoCardSaid : Prop := Claim7.holds Tryz.pinned (.plain (OpenSpec.upto badgeListsSpec)) badgeListsUptoCard
end Rows
end Go.Proofs.YtifjpcdpmimccaaGreatDoor
