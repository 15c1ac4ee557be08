/-
  DERIVED. GIVEN WITH THE SEED: THE CARDS: each row of YtbchmkhliehbfaaDoorRows.lean that lists a variable, with what it lists TIED to the program's text (the seventh form; the later family's looks); each row that meets fmt, with fmt's text TOLD by the authors' own Lean function (tested against real Go, not proved from fmt's source: count such statements apart). THE CARD IS WHAT COUNTS. Prove the row's statement (the work); the ties are given (YtbchmkhliehbfaaDoorTie.lean); close each card by the builder's one call (the guide's Derived/Test/ToyasCard.lean, 'card_holds'). Laid BY PROGRAM, IN A SANDBOX (cutbox-door.mjs). By AI agents, Wed Nov 11 2026. No macro, syntax, notation, axiom, sorry.
-/
import Derived.Test.YtbchmkhliehbfaaDoorRows
import GoSem.ClaimSeven
namespace Go.Proofs.YtbchmkhliehbfaaDoor
namespace Rows

/-- THE TIED CARD OF 'tannoylaw23.MediaEncodes'. -/
def mediaEncodesCard : Claim7 := { stood := { row := mediaEncodesRow, standIns := [], harness := (true, "78bf3b4386f6a7d7011d4e2296c396275acbbe5b2d99c8b5926ef4fec752de17"), looks := false }, kinds := [], alts := [], laidByText := true, laidKinds := [.data, .pinned], laidTests := true, laidLooks := .later }
def MediaEncodesCardSaid : Prop := Claim7.holds Tryd.pinned (.plain (OpenSpec.ofChange mediaEncodesSpec)) mediaEncodesCard

/-- THE TIED CARD OF 'tannoylaw23.MediaDecodes'. -/
def mediaDecodesCard : Claim7 := { stood := { row := mediaDecodesRow, standIns := [], harness := (true, "78bf3b4386f6a7d7011d4e2296c396275acbbe5b2d99c8b5926ef4fec752de17"), looks := false }, kinds := [], alts := [], laidByText := true, laidKinds := [.data, .pinned], laidTests := true, laidLooks := .later }
def MediaDecodesCardSaid : Prop := Claim7.holds Tryd.pinned (.plain (OpenSpec.ofChange mediaDecodesSpec)) mediaDecodesCard

/-- THE TIED CARD OF 'tannoylaw23.MediaFinds'. -/
def mediaFindsCard : Claim7 := { stood := { row := mediaFindsRow, standIns := [], harness := (true, "78bf3b4386f6a7d7011d4e2296c396275acbbe5b2d99c8b5926ef4fec752de17"), looks := false }, kinds := [], alts := [], laidByText := true, laidKinds := [.data, .pinned], laidTests := true, laidLooks := .later }
def MediaFindsCardSaid : Prop := Claim7.holds Tryd.pinned (.plain (OpenSpec.ofChange mediaFindsSpec)) mediaFindsCard

/-- THE TIED CARD OF 'tannoylaw23.MediaBack'. -/
def mediaBackCard : Claim7 := { stood := { row := mediaBackRow, standIns := [], harness := (true, "78bf3b4386f6a7d7011d4e2296c396275acbbe5b2d99c8b5926ef4fec752de17"), looks := false }, kinds := [], alts := [], laidByText := true, laidKinds := [.data, .pinned], laidTests := true, laidLooks := .later }
def MediaBackCardSaid : Prop := Claim7.holds Tryd.pinned (.plain (OpenSpec.ofChange mediaBackSpec)) mediaBackCard

/-- THE TIED CARD OF 'tannoylaw23.MediaParts'. -/
def mediaPartsCard : Claim7 := { stood := { row := mediaPartsRow, standIns := [], harness := (true, "78bf3b4386f6a7d7011d4e2296c396275acbbe5b2d99c8b5926ef4fec752de17"), looks := false }, kinds := [], alts := [], laidByText := true, laidKinds := [.data, .pinned], laidTests := true, laidLooks := .later }
def MediaPartsCardSaid : Prop := Claim7.holds Tryd.pinned (.plain (OpenSpec.ofChange mediaPartsSpec)) mediaPartsCard

/-- THE TIED CARD OF 'tannoylaw23.MediaKinds'. -/
def mediaKindsCard : Claim7 := { stood := { row := mediaKindsRow, standIns := [], harness := (true, "78bf3b4386f6a7d7011d4e2296c396275acbbe5b2d99c8b5926ef4fec752de17"), looks := false }, kinds := [], alts := [], laidByText := true, laidKinds := [.data, .pinned], laidTests := true, laidLooks := .later }
def MediaKindsCardSaid : Prop := Claim7.holds Tryd.pinned (.plain (OpenSpec.ofChange mediaKindsSpec)) mediaKindsCard

/-- THE TIED CARD OF 'tannoylaw23.MediaKnown'. -/
def mediaKnownCard : Claim7 := { stood := { row := mediaKnownRow, standIns := [], harness := (true, "78bf3b4386f6a7d7011d4e2296c396275acbbe5b2d99c8b5926ef4fec752de17"), looks := false }, kinds := [], alts := [], laidByText := true, laidKinds := [.data, .pinned], laidTests := true, laidLooks := .later }
def MediaKnownCardSaid : Prop := Claim7.holds Tryd.pinned (.plain (OpenSpec.ofChange mediaKnownSpec)) mediaKnownCard

/-- THE SECOND FORM's CARD OF 'tannoylaw23.MediaEncodes'. -/
def mediaEncodesUptoCard : Claim7 := { stood := { row := mediaEncodesUptoRow, standIns := [], harness := (true, "78bf3b4386f6a7d7011d4e2296c396275acbbe5b2d99c8b5926ef4fec752de17"), looks := false }, kinds := [], alts := [], laidByText := true, laidKinds := [.data, .pinned], laidTests := true, laidLooks := .later }
def MediaEncodesUptoCardSaid : Prop := Claim7.holds Tryd.pinned (.plain (OpenSpec.upto mediaEncodesSpec)) mediaEncodesUptoCard

/-- THE SECOND FORM's CARD OF 'tannoylaw23.MediaDecodes'. -/
def mediaDecodesUptoCard : Claim7 := { stood := { row := mediaDecodesUptoRow, standIns := [], harness := (true, "78bf3b4386f6a7d7011d4e2296c396275acbbe5b2d99c8b5926ef4fec752de17"), looks := false }, kinds := [], alts := [], laidByText := true, laidKinds := [.data, .pinned], laidTests := true, laidLooks := .later }
def MediaDecodesUptoCardSaid : Prop := Claim7.holds Tryd.pinned (.plain (OpenSpec.upto mediaDecodesSpec)) mediaDecodesUptoCard

/-- THE SECOND FORM's CARD OF 'tannoylaw23.MediaFinds'. -/
def mediaFindsUptoCard : Claim7 := { stood := { row := mediaFindsUptoRow, standIns := [], harness := (true, "78bf3b4386f6a7d7011d4e2296c396275acbbe5b2d99c8b5926ef4fec752de17"), looks := false }, kinds := [], alts := [], laidByText := true, laidKinds := [.data, .pinned], laidTests := true, laidLooks := .later }
def MediaFindsUptoCardSaid : Prop := Claim7.holds Tryd.pinned (.plain (OpenSpec.upto mediaFindsSpec)) mediaFindsUptoCard

/-- THE SECOND FORM's CARD OF 'tannoylaw23.MediaBack'. -/
def mediaBackUptoCard : Claim7 := { stood := { row := mediaBackUptoRow, standIns := [], harness := (true, "78bf3b4386f6a7d7011d4e2296c396275acbbe5b2d99c8b5926ef4fec752de17"), looks := false }, kinds := [], alts := [], laidByText := true, laidKinds := [.data, .pinned], laidTests := true, laidLooks := .later }
def MediaBackUptoCardSaid : Prop := Claim7.holds Tryd.pinned (.plain (OpenSpec.upto mediaBackSpec)) mediaBackUptoCard

/-- THE SECOND FORM's CARD OF 'tannoylaw23.MediaParts'. -/
def mediaPartsUptoCard : Claim7 := { stood := { row := mediaPartsUptoRow, standIns := [], harness := (true, "78bf3b4386f6a7d7011d4e2296c396275acbbe5b2d99c8b5926ef4fec752de17"), looks := false }, kinds := [], alts := [], laidByText := true, laidKinds := [.data, .pinned], laidTests := true, laidLooks := .later }
def MediaPartsUptoCardSaid : Prop := Claim7.holds Tryd.pinned (.plain (OpenSpec.upto mediaPartsSpec)) mediaPartsUptoCard

/-- THE SECOND FORM's CARD OF 'tannoylaw23.MediaKinds'. -/
def mediaKindsUptoCard : Claim7 := { stood := { row := mediaKindsUptoRow, standIns := [], harness := (true, "78bf3b4386f6a7d7011d4e2296c396275acbbe5b2d99c8b5926ef4fec752de17"), looks := false }, kinds := [], alts := [], laidByText := true, laidKinds := [.data, .pinned], laidTests := true, laidLooks := .later }
def MediaKindsUptoCardSaid : Prop := Claim7.holds Tryd.pinned (.plain (OpenSpec.upto mediaKindsSpec)) mediaKindsUptoCard

/-- THE SECOND FORM's CARD OF 'tannoylaw23.MediaKnown'. -/
def mediaKnownUptoCard : Claim7 := { stood := { row := mediaKnownUptoRow, standIns := [], harness := (true, "78bf3b4386f6a7d7011d4e2296c396275acbbe5b2d99c8b5926ef4fec752de17"), looks := false }, kinds := [], alts := [], laidByText := true, laidKinds := [.data, .pinned], laidTests := true, laidLooks := .later }
def MediaKnownUptoCardSaid : Prop := Claim7.holds Tryd.pinned (.plain (OpenSpec.upto mediaKnownSpec)) mediaKnownUptoCard
end Rows
end Go.Proofs.YtbchmkhliehbfaaDoor
