/-
  DERIVED. GIVEN WITH THE SEED: THE CARDS: each row of YtjenieljapmehaaGreatDoorRows.lean that lists a variable, with what it lists TIED to the program's text (the seventh form; the later family's looks); each row that meets fmt, with fmt's text TOLD by the authors' own Lean function (tested against real Go, not proved from fmt's source: count such statements apart). THE CARD IS WHAT COUNTS. Prove the row's statement (the work); the ties are given (YtjenieljapmehaaGreatDoorTie.lean); close each card by the builder's one call (the guide's Derived/Test/ToyasCard.lean, 'card_holds'). Laid BY PROGRAM, IN A SANDBOX (cutbox-door.mjs). By AI agents, Wed Nov 11 2026. No macro, syntax, notation, axiom, sorry.
-/
import Derived.Test.YtjenieljapmehaaGreatDoorRows
import GoSem.ClaimSeven
namespace Go.Proofs.YtjenieljapmehaaGreatDoor
namespace Rows

/-- THE TIED CARD OF 'tannoylaw21.ExportGives'. -/
def exportGivesCard : Claim7 := { stood := { row := exportGivesRow, standIns := [], harness := (true, "768500e005a55cb3602c9f8b53f65a7a9fdef3c798545dd9943c9c206f046c26"), looks := true }, kinds := [], alts := [], laidByText := true, laidKinds := [.data, .sentinel, .pinned], laidTests := true, laidLooks := .later }
def ExportGivesCardSaid : Prop := Claim7.holds Tryz.pinned (.plain (OpenSpec.ofChange exportGivesSpec)) exportGivesCard

/-- THE TIED CARD OF 'tannoylaw21.ExportKeys'. -/
def exportKeysCard : Claim7 := { stood := { row := exportKeysRow, standIns := [], harness := (true, "768500e005a55cb3602c9f8b53f65a7a9fdef3c798545dd9943c9c206f046c26"), looks := true }, kinds := [], alts := [], laidByText := true, laidKinds := [.data, .sentinel, .pinned], laidTests := true, laidLooks := .later }
def ExportKeysCardSaid : Prop := Claim7.holds Tryz.pinned (.plain (OpenSpec.ofChange exportKeysSpec)) exportKeysCard

/-- THE TIED CARD OF 'tannoylaw21.ExportMeets'. -/
def exportMeetsCard : Claim7 := { stood := { row := exportMeetsRow, standIns := [], harness := (true, "768500e005a55cb3602c9f8b53f65a7a9fdef3c798545dd9943c9c206f046c26"), looks := true }, kinds := [], alts := [], laidByText := true, laidKinds := [.data, .sentinel, .pinned], laidTests := true, laidLooks := .later }
def ExportMeetsCardSaid : Prop := Claim7.holds Tryz.pinned (.plain (OpenSpec.ofChange exportMeetsSpec)) exportMeetsCard

/-- THE SECOND FORM's CARD OF 'tannoylaw21.ExportGives'. -/
def exportGivesUptoCard : Claim7 := { stood := { row := exportGivesUptoRow, standIns := [], harness := (true, "768500e005a55cb3602c9f8b53f65a7a9fdef3c798545dd9943c9c206f046c26"), looks := true }, kinds := [], alts := [], laidByText := true, laidKinds := [.data, .sentinel, .pinned], laidTests := true, laidLooks := .later }
def ExportGivesUptoCardSaid : Prop := Claim7.holds Tryz.pinned (.plain (OpenSpec.upto exportGivesSpec)) exportGivesUptoCard

/-- THE SECOND FORM's CARD OF 'tannoylaw21.ExportKeys'. -/
def exportKeysUptoCard : Claim7 := { stood := { row := exportKeysUptoRow, standIns := [], harness := (true, "768500e005a55cb3602c9f8b53f65a7a9fdef3c798545dd9943c9c206f046c26"), looks := true }, kinds := [], alts := [], laidByText := true, laidKinds := [.data, .sentinel, .pinned], laidTests := true, laidLooks := .later }
def ExportKeysUptoCardSaid : Prop := Claim7.holds Tryz.pinned (.plain (OpenSpec.upto exportKeysSpec)) exportKeysUptoCard

/-- THE SECOND FORM's CARD OF 'tannoylaw21.ExportMeets'. -/
def exportMeetsUptoCard : Claim7 := { stood := { row := exportMeetsUptoRow, standIns := [], harness := (true, "768500e005a55cb3602c9f8b53f65a7a9fdef3c798545dd9943c9c206f046c26"), looks := true }, kinds := [], alts := [], laidByText := true, laidKinds := [.data, .sentinel, .pinned], laidTests := true, laidLooks := .later }
def ExportMeetsUptoCardSaid : Prop := Claim7.holds Tryz.pinned (.plain (OpenSpec.upto exportMeetsSpec)) exportMeetsUptoCard
end Rows
end Go.Proofs.YtjenieljapmehaaGreatDoor
