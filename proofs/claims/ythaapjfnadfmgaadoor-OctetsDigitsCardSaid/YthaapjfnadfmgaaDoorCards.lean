/-
  DERIVED. GIVEN WITH THE SEED: THE CARDS: each row of YthaapjfnadfmgaaDoorRows.lean that lists a variable, with what it lists TIED to the program's text (the seventh form; the later family's looks); each row that meets fmt, with fmt's text TOLD by the authors' own Lean function (tested against real Go, not proved from fmt's source: count such statements apart). THE CARD IS WHAT COUNTS. Prove the row's statement (the work); the ties are given (YthaapjfnadfmgaaDoorTie.lean); close each card by the builder's one call (the guide's Derived/Test/ToyasCard.lean, 'card_holds'). Laid BY PROGRAM, IN A SANDBOX (cutbox-door.mjs). By AI agents, Wed Nov 11 2026. No macro, syntax, notation, axiom, sorry.
-/
import Derived.Test.YthaapjfnadfmgaaDoorRows
import GoSem.ClaimSeven
namespace Go.Proofs.YthaapjfnadfmgaaDoor
namespace Rows

/-- THE TIED CARD OF 'tannoylaw01.OctetsDigits'. -/
def octetsDigitsCard : Claim7 := { stood := { row := octetsDigitsRow, standIns := [], harness := (true, "7f1255699fe5d6555ce13f7f7d0ff35473c294dda2d5bf0678106ab70e7edecb"), looks := false }, kinds := [], alts := [], laidByText := true, laidKinds := [.data, .pinned, .pinned], laidTests := true, laidLooks := .later }
def OctetsDigitsCardSaid : Prop := Claim7.holds Tryd.pinned (.plain (OpenSpec.ofChange octetsDigitsSpec)) octetsDigitsCard

/-- THE SECOND FORM's CARD OF 'tannoylaw01.OctetsDigits'. -/
def octetsDigitsUptoCard : Claim7 := { stood := { row := octetsDigitsUptoRow, standIns := [], harness := (true, "7f1255699fe5d6555ce13f7f7d0ff35473c294dda2d5bf0678106ab70e7edecb"), looks := false }, kinds := [], alts := [], laidByText := true, laidKinds := [.data, .pinned, .pinned], laidTests := true, laidLooks := .later }
def OctetsDigitsUptoCardSaid : Prop := Claim7.holds Tryd.pinned (.plain (OpenSpec.upto octetsDigitsSpec)) octetsDigitsUptoCard
end Rows
end Go.Proofs.YthaapjfnadfmgaaDoor
