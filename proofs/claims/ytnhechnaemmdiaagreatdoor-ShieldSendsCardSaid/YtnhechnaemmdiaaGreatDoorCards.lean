/-
  DERIVED. GIVEN WITH THE SEED: THE CARDS: each row of YtnhechnaemmdiaaGreatDoorRows.lean that lists a variable, with what it lists TIED to the program's text (the seventh form; the later family's looks); each row that meets fmt, with fmt's text TOLD by the authors' own Lean function (tested against real Go, not proved from fmt's source: count such statements apart). THE CARD IS WHAT COUNTS. Prove the row's statement (the work); the ties are given (YtnhechnaemmdiaaGreatDoorTie.lean); close each card by the builder's one call (the guide's Derived/Test/ToyasCard.lean, 'card_holds'). Laid BY PROGRAM, IN A SANDBOX (cutbox-door.mjs). By AI agents, Wed Nov 11 2026. No macro, syntax, notation, axiom, sorry.
-/
import Derived.Test.YtnhechnaemmdiaaGreatDoorRows
import GoSem.ClaimSeven
namespace Go.Proofs.YtnhechnaemmdiaaGreatDoor
namespace Rows

/-- THE TIED CARD OF 'tannoylaw25.ShieldGuesses'. -/
def shieldGuessesCard : Claim7 := { stood := { row := shieldGuessesRow, standIns := [], harness := (true, "0fe8e590737cc8f034c08b1cb8577b022bbbf15db1cdcc0fc2c4097ae48180fd"), looks := false }, kinds := [], alts := [], laidByText := true, laidKinds := [.data, .data, .data, .pinned], laidTests := true, laidLooks := .later }
def ShieldGuessesCardSaid : Prop := Claim7.holds Tryz.pinned (.plain (OpenSpec.ofChange shieldGuessesSpec)) shieldGuessesCard

/-- THE TIED CARD OF 'tannoylaw25.ShieldProtects'. -/
def shieldProtectsCard : Claim7 := { stood := { row := shieldProtectsRow, standIns := [], harness := (true, "0fe8e590737cc8f034c08b1cb8577b022bbbf15db1cdcc0fc2c4097ae48180fd"), looks := false }, kinds := [], alts := [], laidByText := true, laidKinds := [.data, .data, .data, .pinned], laidTests := true, laidLooks := .later }
def ShieldProtectsCardSaid : Prop := Claim7.holds Tryz.pinned (.plain (OpenSpec.ofChange shieldProtectsSpec)) shieldProtectsCard

/-- THE TIED CARD OF 'tannoylaw25.ShieldOpens'. -/
def shieldOpensCard : Claim7 := { stood := { row := shieldOpensRow, standIns := [], harness := (true, "0fe8e590737cc8f034c08b1cb8577b022bbbf15db1cdcc0fc2c4097ae48180fd"), looks := false }, kinds := [], alts := [], laidByText := true, laidKinds := [.data, .data, .data, .pinned], laidTests := true, laidLooks := .later }
def ShieldOpensCardSaid : Prop := Claim7.holds Tryz.pinned (.plain (OpenSpec.ofChange shieldOpensSpec)) shieldOpensCard

/-- THE TIED CARD OF 'tannoylaw25.ShieldThrough'. -/
def shieldThroughCard : Claim7 := { stood := { row := shieldThroughRow, standIns := [], harness := (true, "0fe8e590737cc8f034c08b1cb8577b022bbbf15db1cdcc0fc2c4097ae48180fd"), looks := false }, kinds := [], alts := [], laidByText := true, laidKinds := [.data, .data, .data, .pinned], laidTests := true, laidLooks := .later }
def ShieldThroughCardSaid : Prop := Claim7.holds Tryz.pinned (.plain (OpenSpec.ofChange shieldThroughSpec)) shieldThroughCard

/-- THE TIED CARD OF 'tannoylaw25.ShieldHides'. -/
def shieldHidesCard : Claim7 := { stood := { row := shieldHidesRow, standIns := [], harness := (true, "0fe8e590737cc8f034c08b1cb8577b022bbbf15db1cdcc0fc2c4097ae48180fd"), looks := false }, kinds := [], alts := [], laidByText := true, laidKinds := [.data, .data, .data, .pinned], laidTests := true, laidLooks := .later }
def ShieldHidesCardSaid : Prop := Claim7.holds Tryz.pinned (.plain (OpenSpec.ofChange shieldHidesSpec)) shieldHidesCard

/-- THE TIED CARD OF 'tannoylaw25.ShieldSends'. -/
def shieldSendsCard : Claim7 := { stood := { row := shieldSendsRow, standIns := [], harness := (true, "0fe8e590737cc8f034c08b1cb8577b022bbbf15db1cdcc0fc2c4097ae48180fd"), looks := false }, kinds := [], alts := [], laidByText := true, laidKinds := [.data, .data, .data, .pinned], laidTests := true, laidLooks := .later }
def ShieldSendsCardSaid : Prop := Claim7.holds Tryz.pinned (.plain (OpenSpec.ofChange shieldSendsSpec)) shieldSendsCard

/-- THE TIED CARD OF 'tannoylaw25.ShieldReports'. -/
def shieldReportsCard : Claim7 := { stood := { row := shieldReportsRow, standIns := [], harness := (true, "0fe8e590737cc8f034c08b1cb8577b022bbbf15db1cdcc0fc2c4097ae48180fd"), looks := false }, kinds := [], alts := [], laidByText := true, laidKinds := [.data, .data, .data, .pinned], laidTests := true, laidLooks := .later }
def ShieldReportsCardSaid : Prop := Claim7.holds Tryz.pinned (.plain (OpenSpec.ofChange shieldReportsSpec)) shieldReportsCard

/-- THE TIED CARD OF 'tannoylaw25.ShieldForged'. -/
def shieldForgedCard : Claim7 := { stood := { row := shieldForgedRow, standIns := [], harness := (true, "0fe8e590737cc8f034c08b1cb8577b022bbbf15db1cdcc0fc2c4097ae48180fd"), looks := false }, kinds := [], alts := [], laidByText := true, laidKinds := [.data, .data, .data, .pinned], laidTests := true, laidLooks := .later }
def ShieldForgedCardSaid : Prop := Claim7.holds Tryz.pinned (.plain (OpenSpec.ofChange shieldForgedSpec)) shieldForgedCard

/-- THE TIED CARD OF 'tannoylaw25.ShieldKnown'. -/
def shieldKnownCard : Claim7 := { stood := { row := shieldKnownRow, standIns := [], harness := (true, "0fe8e590737cc8f034c08b1cb8577b022bbbf15db1cdcc0fc2c4097ae48180fd"), looks := false }, kinds := [], alts := [], laidByText := true, laidKinds := [.data, .data, .data, .pinned], laidTests := true, laidLooks := .later }
def ShieldKnownCardSaid : Prop := Claim7.holds Tryz.pinned (.plain (OpenSpec.ofChange shieldKnownSpec)) shieldKnownCard

/-- THE SECOND FORM's CARD OF 'tannoylaw25.ShieldGuesses'. -/
def shieldGuessesUptoCard : Claim7 := { stood := { row := shieldGuessesUptoRow, standIns := [], harness := (true, "0fe8e590737cc8f034c08b1cb8577b022bbbf15db1cdcc0fc2c4097ae48180fd"), looks := false }, kinds := [], alts := [], laidByText := true, laidKinds := [.data, .data, .data, .pinned], laidTests := true, laidLooks := .later }
def ShieldGuessesUptoCardSaid : Prop := Claim7.holds Tryz.pinned (.plain (OpenSpec.upto shieldGuessesSpec)) shieldGuessesUptoCard

/-- THE SECOND FORM's CARD OF 'tannoylaw25.ShieldProtects'. -/
def shieldProtectsUptoCard : Claim7 := { stood := { row := shieldProtectsUptoRow, standIns := [], harness := (true, "0fe8e590737cc8f034c08b1cb8577b022bbbf15db1cdcc0fc2c4097ae48180fd"), looks := false }, kinds := [], alts := [], laidByText := true, laidKinds := [.data, .data, .data, .pinned], laidTests := true, laidLooks := .later }
def ShieldProtectsUptoCardSaid : Prop := Claim7.holds Tryz.pinned (.plain (OpenSpec.upto shieldProtectsSpec)) shieldProtectsUptoCard

/-- THE SECOND FORM's CARD OF 'tannoylaw25.ShieldOpens'. -/
def shieldOpensUptoCard : Claim7 := { stood := { row := shieldOpensUptoRow, standIns := [], harness := (true, "0fe8e590737cc8f034c08b1cb8577b022bbbf15db1cdcc0fc2c4097ae48180fd"), looks := false }, kinds := [], alts := [], laidByText := true, laidKinds := [.data, .data, .data, .pinned], laidTests := true, laidLooks := .later }
def ShieldOpensUptoCardSaid : Prop := Claim7.holds Tryz.pinned (.plain (OpenSpec.upto shieldOpensSpec)) shieldOpensUptoCard

/-- THE SECOND FORM's CARD OF 'tannoylaw25.ShieldThrough'. -/
def shieldThroughUptoCard : Claim7 := { stood := { row := shieldThroughUptoRow, standIns := [], harness := (true, "0fe8e590737cc8f034c08b1cb8577b022bbbf15db1cdcc0fc2c4097ae48180fd"), looks := false }, kinds := [], alts := [], laidByText := true, laidKinds := [.data, .data, .data, .pinned], laidTests := true, laidLooks := .later }
def ShieldThroughUptoCardSaid : Prop := Claim7.holds Tryz.pinned (.plain (OpenSpec.upto shieldThroughSpec)) shieldThroughUptoCard

/-- THE SECOND FORM's CARD OF 'tannoylaw25.ShieldHides'. -/
def shieldHidesUptoCard : Claim7 := { stood := { row := shieldHidesUptoRow, standIns := [], harness := (true, "0fe8e590737cc8f034c08b1cb8577b022bbbf15db1cdcc0fc2c4097ae48180fd"), looks := false }, kinds := [], alts := [], laidByText := true, laidKinds := [.data, .data, .data, .pinned], laidTests := true, laidLooks := .later }
def ShieldHidesUptoCardSaid : Prop := Claim7.holds Tryz.pinned (.plain (OpenSpec.upto shieldHidesSpec)) shieldHidesUptoCard

/-- THE SECOND FORM's CARD OF 'tannoylaw25.ShieldSends'. -/
def shieldSendsUptoCard : Claim7 := { stood := { row := shieldSendsUptoRow, standIns := [], harness := (true, "0fe8e590737cc8f034c08b1cb8577b022bbbf15db1cdcc0fc2c4097ae48180fd"), looks := false }, kinds := [], alts := [], laidByText := true, laidKinds := [.data, .data, .data, .pinned], laidTests := true, laidLooks := .later }
def ShieldSendsUptoCardSaid : Prop := Claim7.holds Tryz.pinned (.plain (OpenSpec.upto shieldSendsSpec)) shieldSendsUptoCard

/-- THE SECOND FORM's CARD OF 'tannoylaw25.ShieldReports'. -/
def shieldReportsUptoCard : Claim7 := { stood := { row := shieldReportsUptoRow, standIns := [], harness := (true, "0fe8e590737cc8f034c08b1cb8577b022bbbf15db1cdcc0fc2c4097ae48180fd"), looks := false }, kinds := [], alts := [], laidByText := true, laidKinds := [.data, .data, .data, .pinned], laidTests := true, laidLooks := .later }
def ShieldReportsUptoCardSaid : Prop := Claim7.holds Tryz.pinned (.plain (OpenSpec.upto shieldReportsSpec)) shieldReportsUptoCard

/-- THE SECOND FORM's CARD OF 'tannoylaw25.ShieldForged'. -/
def shieldForgedUptoCard : Claim7 := { stood := { row := shieldForgedUptoRow, standIns := [], harness := (true, "0fe8e590737cc8f034c08b1cb8577b022bbbf15db1cdcc0fc2c4097ae48180fd"), looks := false }, kinds := [], alts := [], laidByText := true, laidKinds := [.data, .data, .data, .pinned], laidTests := true, laidLooks := .later }
def ShieldForgedUptoCardSaid : Prop := Claim7.holds Tryz.pinned (.plain (OpenSpec.upto shieldForgedSpec)) shieldForgedUptoCard

/-- THE SECOND FORM's CARD OF 'tannoylaw25.ShieldKnown'. -/
def shieldKnownUptoCard : Claim7 := { stood := { row := shieldKnownUptoRow, standIns := [], harness := (true, "0fe8e590737cc8f034c08b1cb8577b022bbbf15db1cdcc0fc2c4097ae48180fd"), looks := false }, kinds := [], alts := [], laidByText := true, laidKinds := [.data, .data, .data, .pinned], laidTests := true, laidLooks := .later }
def ShieldKnownUptoCardSaid : Prop := Claim7.holds Tryz.pinned (.plain (OpenSpec.upto shieldKnownSpec)) shieldKnownUptoCard
end Rows
end Go.Proofs.YtnhechnaemmdiaaGreatDoor
