/-
  DERIVED. GIVEN WITH THE SEED: THE CARDS: each row of YtjenieljapmehaaDoorRows.lean that lists a variable, with what it lists TIED to the program's text (the seventh form; the later family's looks); each row that meets fmt, with fmt's text TOLD by the authors' own Lean function (tested against real Go, not proved from fmt's source: count such statements apart). THE CARD IS WHAT COUNTS. Prove the row's statement (the work); the ties are given (YtjenieljapmehaaDoorTie.lean); close each card by the builder's one call (the guide's Derived/Test/ToyasCard.lean, 'card_holds'). Laid BY PROGRAM, IN A SANDBOX (cutbox-door.mjs). By AI agents, Wed Nov 11 2026. No macro, syntax, notation, axiom, sorry.
-/
import Derived.Test.YtjenieljapmehaaDoorRows
import GoSem.ClaimSeven
namespace Go.Proofs.YtjenieljapmehaaDoor
namespace Rows

/-- THE TIED CARD OF 'tannoylaw21.ExportRounds'. -/
def exportRoundsCard : Claim7 := { stood := { row := exportRoundsRow, standIns := [], harness := (true, "8dfa1422bf9a1524705862a0b71f77a0d141d1932d1911b9bc8ccfbcfbb47753"), looks := true }, kinds := [], alts := [], laidByText := true, laidKinds := [.data, .sentinel, .pinned], laidTests := true, laidLooks := .later }
def ExportRoundsCardSaid : Prop := Claim7.holds Tryd.pinned (.plain (OpenSpec.ofChange exportRoundsSpec)) exportRoundsCard

/-- THE TIED CARD OF 'tannoylaw21.ExportKnown'. -/
def exportKnownCard : Claim7 := { stood := { row := exportKnownRow, standIns := [], harness := (true, "8dfa1422bf9a1524705862a0b71f77a0d141d1932d1911b9bc8ccfbcfbb47753"), looks := true }, kinds := [], alts := [], laidByText := true, laidKinds := [.data, .sentinel, .pinned], laidTests := true, laidLooks := .later }
def ExportKnownCardSaid : Prop := Claim7.holds Tryd.pinned (.plain (OpenSpec.ofChange exportKnownSpec)) exportKnownCard

/-- THE SECOND FORM's CARD OF 'tannoylaw21.ExportRounds'. -/
def exportRoundsUptoCard : Claim7 := { stood := { row := exportRoundsUptoRow, standIns := [], harness := (true, "8dfa1422bf9a1524705862a0b71f77a0d141d1932d1911b9bc8ccfbcfbb47753"), looks := true }, kinds := [], alts := [], laidByText := true, laidKinds := [.data, .sentinel, .pinned], laidTests := true, laidLooks := .later }
def ExportRoundsUptoCardSaid : Prop := Claim7.holds Tryd.pinned (.plain (OpenSpec.upto exportRoundsSpec)) exportRoundsUptoCard

/-- THE SECOND FORM's CARD OF 'tannoylaw21.ExportKnown'. -/
def exportKnownUptoCard : Claim7 := { stood := { row := exportKnownUptoRow, standIns := [], harness := (true, "8dfa1422bf9a1524705862a0b71f77a0d141d1932d1911b9bc8ccfbcfbb47753"), looks := true }, kinds := [], alts := [], laidByText := true, laidKinds := [.data, .sentinel, .pinned], laidTests := true, laidLooks := .later }
def ExportKnownUptoCardSaid : Prop := Claim7.holds Tryd.pinned (.plain (OpenSpec.upto exportKnownSpec)) exportKnownUptoCard
end Rows
end Go.Proofs.YtjenieljapmehaaDoor
