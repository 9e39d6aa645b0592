/-
  DERIVED. GIVEN WITH THE SEED: THE CARDS: each row of YtoagdbabgiekgaaDoorRows.lean that lists a variable, with what it lists TIED to the program's text (the seventh form; the later family's looks); each row that meets fmt, with fmt's text TOLD by the authors' own Lean function (tested against real Go, not proved from fmt's source: count such statements apart). THE CARD IS WHAT COUNTS. Prove the row's statement (the work); the ties are given (YtoagdbabgiekgaaDoorTie.lean); close each card by the builder's one call (the guide's Derived/Test/ToyasCard.lean, 'card_holds'). Laid BY PROGRAM, IN A SANDBOX (cutbox-door.mjs). By AI agents, Wed Nov 11 2026. No macro, syntax, notation, axiom, sorry.
-/
import Derived.Test.YtoagdbabgiekgaaDoorRows
import GoSem.ClaimSeven
namespace Go.Proofs.YtoagdbabgiekgaaDoor
namespace Rows

/-- THE TIED CARD OF 'griffelaw11.EyeRedraws'. -/
def eyeRedrawsCard : Claim7 := { stood := { row := eyeRedrawsRow, standIns := [], harness := (true, "76dc4a8f4482e347c76ae5c95d7b58d47262a7c37a70c92036b52cae6183b036"), looks := false }, kinds := [], alts := [], laidByText := true, laidKinds := [.data, .pinned], laidTests := true, laidLooks := .later }
def EyeRedrawsCardSaid : Prop := Claim7.holds Tryd.pinned (.plain (OpenSpec.ofChange eyeRedrawsSpec)) eyeRedrawsCard

/-- THE TIED CARD OF 'griffelaw11.EyeOuts'. -/
def eyeOutsCard : Claim7 := { stood := { row := eyeOutsRow, standIns := [], harness := (true, "76dc4a8f4482e347c76ae5c95d7b58d47262a7c37a70c92036b52cae6183b036"), looks := false }, kinds := [], alts := [], laidByText := true, laidKinds := [.data, .pinned], laidTests := true, laidLooks := .later }
def EyeOutsCardSaid : Prop := Claim7.holds Tryd.pinned (.plain (OpenSpec.ofChange eyeOutsSpec)) eyeOutsCard

/-- THE TIED CARD OF 'griffelaw11.EyeLayers'. -/
def eyeLayersCard : Claim7 := { stood := { row := eyeLayersRow, standIns := [], harness := (true, "76dc4a8f4482e347c76ae5c95d7b58d47262a7c37a70c92036b52cae6183b036"), looks := false }, kinds := [], alts := [], laidByText := true, laidKinds := [.data, .pinned], laidTests := true, laidLooks := .later }
def EyeLayersCardSaid : Prop := Claim7.holds Tryd.pinned (.plain (OpenSpec.ofChange eyeLayersSpec)) eyeLayersCard

/-- THE TIED CARD OF 'griffelaw11.EyeRight'. -/
def eyeRightCard : Claim7 := { stood := { row := eyeRightRow, standIns := [], harness := (true, "76dc4a8f4482e347c76ae5c95d7b58d47262a7c37a70c92036b52cae6183b036"), looks := false }, kinds := [], alts := [], laidByText := true, laidKinds := [.data, .pinned], laidTests := true, laidLooks := .later }
def EyeRightCardSaid : Prop := Claim7.holds Tryd.pinned (.plain (OpenSpec.ofChange eyeRightSpec)) eyeRightCard

/-- THE TIED CARD OF 'griffelaw11.EyeTells'. -/
def eyeTellsCard : Claim7 := { stood := { row := eyeTellsRow, standIns := [], harness := (true, "76dc4a8f4482e347c76ae5c95d7b58d47262a7c37a70c92036b52cae6183b036"), looks := false }, kinds := [], alts := [], laidByText := true, laidKinds := [.data, .pinned], laidTests := true, laidLooks := .later }
def EyeTellsCardSaid : Prop := Claim7.holds Tryd.pinned (.plain (OpenSpec.ofChange eyeTellsSpec)) eyeTellsCard

/-- THE TIED CARD OF 'griffelaw11.EyeTangle'. -/
def eyeTangleCard : Claim7 := { stood := { row := eyeTangleRow, standIns := [], harness := (true, "76dc4a8f4482e347c76ae5c95d7b58d47262a7c37a70c92036b52cae6183b036"), looks := false }, kinds := [], alts := [], laidByText := true, laidKinds := [.data, .pinned], laidTests := true, laidLooks := .later }
def EyeTangleCardSaid : Prop := Claim7.holds Tryd.pinned (.plain (OpenSpec.ofChange eyeTangleSpec)) eyeTangleCard

/-- THE TIED CARD OF 'griffelaw11.EyeFewer'. -/
def eyeFewerCard : Claim7 := { stood := { row := eyeFewerRow, standIns := [], harness := (true, "76dc4a8f4482e347c76ae5c95d7b58d47262a7c37a70c92036b52cae6183b036"), looks := false }, kinds := [], alts := [], laidByText := true, laidKinds := [.data, .pinned], laidTests := true, laidLooks := .later }
def EyeFewerCardSaid : Prop := Claim7.holds Tryd.pinned (.plain (OpenSpec.ofChange eyeFewerSpec)) eyeFewerCard

/-- THE TIED CARD OF 'griffelaw11.EyeTrue'. -/
def eyeTrueCard : Claim7 := { stood := { row := eyeTrueRow, standIns := [], harness := (true, "76dc4a8f4482e347c76ae5c95d7b58d47262a7c37a70c92036b52cae6183b036"), looks := false }, kinds := [], alts := [], laidByText := true, laidKinds := [.data, .pinned], laidTests := true, laidLooks := .later }
def EyeTrueCardSaid : Prop := Claim7.holds Tryd.pinned (.plain (OpenSpec.ofChange eyeTrueSpec)) eyeTrueCard

/-- THE SECOND FORM's CARD OF 'griffelaw11.EyeRedraws'. -/
def eyeRedrawsUptoCard : Claim7 := { stood := { row := eyeRedrawsUptoRow, standIns := [], harness := (true, "76dc4a8f4482e347c76ae5c95d7b58d47262a7c37a70c92036b52cae6183b036"), looks := false }, kinds := [], alts := [], laidByText := true, laidKinds := [.data, .pinned], laidTests := true, laidLooks := .later }
def EyeRedrawsUptoCardSaid : Prop := Claim7.holds Tryd.pinned (.plain (OpenSpec.upto eyeRedrawsSpec)) eyeRedrawsUptoCard

/-- THE SECOND FORM's CARD OF 'griffelaw11.EyeOuts'. -/
def eyeOutsUptoCard : Claim7 := { stood := { row := eyeOutsUptoRow, standIns := [], harness := (true, "76dc4a8f4482e347c76ae5c95d7b58d47262a7c37a70c92036b52cae6183b036"), looks := false }, kinds := [], alts := [], laidByText := true, laidKinds := [.data, .pinned], laidTests := true, laidLooks := .later }
def EyeOutsUptoCardSaid : Prop := Claim7.holds Tryd.pinned (.plain (OpenSpec.upto eyeOutsSpec)) eyeOutsUptoCard

/-- THE SECOND FORM's CARD OF 'griffelaw11.EyeLayers'. -/
def eyeLayersUptoCard : Claim7 := { stood := { row := eyeLayersUptoRow, standIns := [], harness := (true, "76dc4a8f4482e347c76ae5c95d7b58d47262a7c37a70c92036b52cae6183b036"), looks := false }, kinds := [], alts := [], laidByText := true, laidKinds := [.data, .pinned], laidTests := true, laidLooks := .later }
def EyeLayersUptoCardSaid : Prop := Claim7.holds Tryd.pinned (.plain (OpenSpec.upto eyeLayersSpec)) eyeLayersUptoCard

/-- THE SECOND FORM's CARD OF 'griffelaw11.EyeRight'. -/
def eyeRightUptoCard : Claim7 := { stood := { row := eyeRightUptoRow, standIns := [], harness := (true, "76dc4a8f4482e347c76ae5c95d7b58d47262a7c37a70c92036b52cae6183b036"), looks := false }, kinds := [], alts := [], laidByText := true, laidKinds := [.data, .pinned], laidTests := true, laidLooks := .later }
def EyeRightUptoCardSaid : Prop := Claim7.holds Tryd.pinned (.plain (OpenSpec.upto eyeRightSpec)) eyeRightUptoCard

/-- THE SECOND FORM's CARD OF 'griffelaw11.EyeTells'. -/
def eyeTellsUptoCard : Claim7 := { stood := { row := eyeTellsUptoRow, standIns := [], harness := (true, "76dc4a8f4482e347c76ae5c95d7b58d47262a7c37a70c92036b52cae6183b036"), looks := false }, kinds := [], alts := [], laidByText := true, laidKinds := [.data, .pinned], laidTests := true, laidLooks := .later }
def EyeTellsUptoCardSaid : Prop := Claim7.holds Tryd.pinned (.plain (OpenSpec.upto eyeTellsSpec)) eyeTellsUptoCard

/-- THE SECOND FORM's CARD OF 'griffelaw11.EyeTangle'. -/
def eyeTangleUptoCard : Claim7 := { stood := { row := eyeTangleUptoRow, standIns := [], harness := (true, "76dc4a8f4482e347c76ae5c95d7b58d47262a7c37a70c92036b52cae6183b036"), looks := false }, kinds := [], alts := [], laidByText := true, laidKinds := [.data, .pinned], laidTests := true, laidLooks := .later }
def EyeTangleUptoCardSaid : Prop := Claim7.holds Tryd.pinned (.plain (OpenSpec.upto eyeTangleSpec)) eyeTangleUptoCard

/-- THE SECOND FORM's CARD OF 'griffelaw11.EyeFewer'. -/
def eyeFewerUptoCard : Claim7 := { stood := { row := eyeFewerUptoRow, standIns := [], harness := (true, "76dc4a8f4482e347c76ae5c95d7b58d47262a7c37a70c92036b52cae6183b036"), looks := false }, kinds := [], alts := [], laidByText := true, laidKinds := [.data, .pinned], laidTests := true, laidLooks := .later }
def EyeFewerUptoCardSaid : Prop := Claim7.holds Tryd.pinned (.plain (OpenSpec.upto eyeFewerSpec)) eyeFewerUptoCard

/-- THE SECOND FORM's CARD OF 'griffelaw11.EyeTrue'. -/
def eyeTrueUptoCard : Claim7 := { stood := { row := eyeTrueUptoRow, standIns := [], harness := (true, "76dc4a8f4482e347c76ae5c95d7b58d47262a7c37a70c92036b52cae6183b036"), looks := false }, kinds := [], alts := [], laidByText := true, laidKinds := [.data, .pinned], laidTests := true, laidLooks := .later }
def EyeTrueUptoCardSaid : Prop := Claim7.holds Tryd.pinned (.plain (OpenSpec.upto eyeTrueSpec)) eyeTrueUptoCard
end Rows
end Go.Proofs.YtoagdbabgiekgaaDoor
