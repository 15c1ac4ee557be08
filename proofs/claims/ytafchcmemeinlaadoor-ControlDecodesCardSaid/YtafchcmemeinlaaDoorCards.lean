/-
  DERIVED. GIVEN WITH THE SEED: THE CARDS: each row of YtafchcmemeinlaaDoorRows.lean that lists a variable, with what it lists TIED to the program's text (the seventh form; the later family's looks); each row that meets fmt, with fmt's text TOLD by the authors' own Lean function (tested against real Go, not proved from fmt's source: count such statements apart). THE CARD IS WHAT COUNTS. Prove the row's statement (the work); the ties are given (YtafchcmemeinlaaDoorTie.lean); close each card by the builder's one call (the guide's Derived/Test/ToyasCard.lean, 'card_holds'). Laid BY PROGRAM, IN A SANDBOX (cutbox-door.mjs). By AI agents, Wed Nov 11 2026. No macro, syntax, notation, axiom, sorry.
-/
import Derived.Test.YtafchcmemeinlaaDoorRows
import GoSem.ClaimSeven
namespace Go.Proofs.YtafchcmemeinlaaDoor
namespace Rows

/-- THE TIED CARD OF 'tannoylaw24.ControlDecodes'. -/
def controlDecodesCard : Claim7 := { stood := { row := controlDecodesRow, standIns := [], harness := (true, "585a4243332317a4536f11fffaf525c8c21c14c6772bac56bb5d46695494ca12"), looks := false }, kinds := [], alts := [], laidByText := true, laidKinds := [.data, .data], laidTests := true, laidLooks := .later }
def ControlDecodesCardSaid : Prop := Claim7.holds Tryd.pinned (.plain (OpenSpec.ofChange controlDecodesSpec)) controlDecodesCard

/-- THE TIED CARD OF 'tannoylaw24.ControlPairs'. -/
def controlPairsCard : Claim7 := { stood := { row := controlPairsRow, standIns := [], harness := (true, "585a4243332317a4536f11fffaf525c8c21c14c6772bac56bb5d46695494ca12"), looks := false }, kinds := [], alts := [], laidByText := true, laidKinds := [.data, .data], laidTests := true, laidLooks := .later }
def ControlPairsCardSaid : Prop := Claim7.holds Tryd.pinned (.plain (OpenSpec.ofChange controlPairsSpec)) controlPairsCard

/-- THE TIED CARD OF 'tannoylaw24.ControlBack'. -/
def controlBackCard : Claim7 := { stood := { row := controlBackRow, standIns := [], harness := (true, "585a4243332317a4536f11fffaf525c8c21c14c6772bac56bb5d46695494ca12"), looks := false }, kinds := [], alts := [], laidByText := true, laidKinds := [.data, .data], laidTests := true, laidLooks := .later }
def ControlBackCardSaid : Prop := Claim7.holds Tryd.pinned (.plain (OpenSpec.ofChange controlBackSpec)) controlBackCard

/-- THE TIED CARD OF 'tannoylaw24.ControlAll'. -/
def controlAllCard : Claim7 := { stood := { row := controlAllRow, standIns := [], harness := (true, "585a4243332317a4536f11fffaf525c8c21c14c6772bac56bb5d46695494ca12"), looks := false }, kinds := [], alts := [], laidByText := true, laidKinds := [.data, .data], laidTests := true, laidLooks := .later }
def ControlAllCardSaid : Prop := Claim7.holds Tryd.pinned (.plain (OpenSpec.ofChange controlAllSpec)) controlAllCard

/-- THE TIED CARD OF 'tannoylaw24.ControlLess'. -/
def controlLessCard : Claim7 := { stood := { row := controlLessRow, standIns := [], harness := (true, "585a4243332317a4536f11fffaf525c8c21c14c6772bac56bb5d46695494ca12"), looks := false }, kinds := [], alts := [], laidByText := true, laidKinds := [.data, .data], laidTests := true, laidLooks := .later }
def ControlLessCardSaid : Prop := Claim7.holds Tryd.pinned (.plain (OpenSpec.ofChange controlLessSpec)) controlLessCard

/-- THE TIED CARD OF 'tannoylaw24.ControlKnown'. -/
def controlKnownCard : Claim7 := { stood := { row := controlKnownRow, standIns := [], harness := (true, "585a4243332317a4536f11fffaf525c8c21c14c6772bac56bb5d46695494ca12"), looks := false }, kinds := [], alts := [], laidByText := true, laidKinds := [.data, .data], laidTests := true, laidLooks := .later }
def ControlKnownCardSaid : Prop := Claim7.holds Tryd.pinned (.plain (OpenSpec.ofChange controlKnownSpec)) controlKnownCard

/-- THE TIED CARD OF 'tannoylaw24.ControlEncodes'. -/
def controlEncodesCard : Claim7 := { stood := { row := controlEncodesRow, standIns := [], harness := (true, "585a4243332317a4536f11fffaf525c8c21c14c6772bac56bb5d46695494ca12"), looks := false }, kinds := [], alts := [], laidByText := true, laidKinds := [.data, .data], laidTests := true, laidLooks := .later }
def ControlEncodesCardSaid : Prop := Claim7.holds Tryd.pinned (.plain (OpenSpec.ofChange controlEncodesSpec)) controlEncodesCard

/-- THE TIED CARD OF 'tannoylaw24.ControlParts'. -/
def controlPartsCard : Claim7 := { stood := { row := controlPartsRow, standIns := [], harness := (true, "585a4243332317a4536f11fffaf525c8c21c14c6772bac56bb5d46695494ca12"), looks := false }, kinds := [], alts := [], laidByText := true, laidKinds := [.data, .data], laidTests := true, laidLooks := .later }
def ControlPartsCardSaid : Prop := Claim7.holds Tryd.pinned (.plain (OpenSpec.ofChange controlPartsSpec)) controlPartsCard

/-- THE SECOND FORM's CARD OF 'tannoylaw24.ControlDecodes'. -/
def controlDecodesUptoCard : Claim7 := { stood := { row := controlDecodesUptoRow, standIns := [], harness := (true, "585a4243332317a4536f11fffaf525c8c21c14c6772bac56bb5d46695494ca12"), looks := false }, kinds := [], alts := [], laidByText := true, laidKinds := [.data, .data], laidTests := true, laidLooks := .later }
def ControlDecodesUptoCardSaid : Prop := Claim7.holds Tryd.pinned (.plain (OpenSpec.upto controlDecodesSpec)) controlDecodesUptoCard

/-- THE SECOND FORM's CARD OF 'tannoylaw24.ControlPairs'. -/
def controlPairsUptoCard : Claim7 := { stood := { row := controlPairsUptoRow, standIns := [], harness := (true, "585a4243332317a4536f11fffaf525c8c21c14c6772bac56bb5d46695494ca12"), looks := false }, kinds := [], alts := [], laidByText := true, laidKinds := [.data, .data], laidTests := true, laidLooks := .later }
def ControlPairsUptoCardSaid : Prop := Claim7.holds Tryd.pinned (.plain (OpenSpec.upto controlPairsSpec)) controlPairsUptoCard

/-- THE SECOND FORM's CARD OF 'tannoylaw24.ControlBack'. -/
def controlBackUptoCard : Claim7 := { stood := { row := controlBackUptoRow, standIns := [], harness := (true, "585a4243332317a4536f11fffaf525c8c21c14c6772bac56bb5d46695494ca12"), looks := false }, kinds := [], alts := [], laidByText := true, laidKinds := [.data, .data], laidTests := true, laidLooks := .later }
def ControlBackUptoCardSaid : Prop := Claim7.holds Tryd.pinned (.plain (OpenSpec.upto controlBackSpec)) controlBackUptoCard

/-- THE SECOND FORM's CARD OF 'tannoylaw24.ControlAll'. -/
def controlAllUptoCard : Claim7 := { stood := { row := controlAllUptoRow, standIns := [], harness := (true, "585a4243332317a4536f11fffaf525c8c21c14c6772bac56bb5d46695494ca12"), looks := false }, kinds := [], alts := [], laidByText := true, laidKinds := [.data, .data], laidTests := true, laidLooks := .later }
def ControlAllUptoCardSaid : Prop := Claim7.holds Tryd.pinned (.plain (OpenSpec.upto controlAllSpec)) controlAllUptoCard

/-- THE SECOND FORM's CARD OF 'tannoylaw24.ControlLess'. -/
def controlLessUptoCard : Claim7 := { stood := { row := controlLessUptoRow, standIns := [], harness := (true, "585a4243332317a4536f11fffaf525c8c21c14c6772bac56bb5d46695494ca12"), looks := false }, kinds := [], alts := [], laidByText := true, laidKinds := [.data, .data], laidTests := true, laidLooks := .later }
def ControlLessUptoCardSaid : Prop := Claim7.holds Tryd.pinned (.plain (OpenSpec.upto controlLessSpec)) controlLessUptoCard

/-- THE SECOND FORM's CARD OF 'tannoylaw24.ControlKnown'. -/
def controlKnownUptoCard : Claim7 := { stood := { row := controlKnownUptoRow, standIns := [], harness := (true, "585a4243332317a4536f11fffaf525c8c21c14c6772bac56bb5d46695494ca12"), looks := false }, kinds := [], alts := [], laidByText := true, laidKinds := [.data, .data], laidTests := true, laidLooks := .later }
def ControlKnownUptoCardSaid : Prop := Claim7.holds Tryd.pinned (.plain (OpenSpec.upto controlKnownSpec)) controlKnownUptoCard

/-- THE SECOND FORM's CARD OF 'tannoylaw24.ControlEncodes'. -/
def controlEncodesUptoCard : Claim7 := { stood := { row := controlEncodesUptoRow, standIns := [], harness := (true, "585a4243332317a4536f11fffaf525c8c21c14c6772bac56bb5d46695494ca12"), looks := false }, kinds := [], alts := [], laidByText := true, laidKinds := [.data, .data], laidTests := true, laidLooks := .later }
def ControlEncodesUptoCardSaid : Prop := Claim7.holds Tryd.pinned (.plain (OpenSpec.upto controlEncodesSpec)) controlEncodesUptoCard

/-- THE SECOND FORM's CARD OF 'tannoylaw24.ControlParts'. -/
def controlPartsUptoCard : Claim7 := { stood := { row := controlPartsUptoRow, standIns := [], harness := (true, "585a4243332317a4536f11fffaf525c8c21c14c6772bac56bb5d46695494ca12"), looks := false }, kinds := [], alts := [], laidByText := true, laidKinds := [.data, .data], laidTests := true, laidLooks := .later }
def ControlPartsUptoCardSaid : Prop := Claim7.holds Tryd.pinned (.plain (OpenSpec.upto controlPartsSpec)) controlPartsUptoCard
end Rows
end Go.Proofs.YtafchcmemeinlaaDoor
