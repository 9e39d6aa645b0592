/-
  DERIVED. GIVEN WITH THE SEED: THE CARDS: each row of YtdpcdbeklccfnaaGreatDoorRows.lean that lists a variable, with what it lists TIED to the program's text (the seventh form; the later family's looks); each row that meets fmt, with fmt's text TOLD by the authors' own Lean function (tested against real Go, not proved from fmt's source: count such statements apart). THE CARD IS WHAT COUNTS. Prove the row's statement (the work); the ties are given (YtdpcdbeklccfnaaGreatDoorTie.lean); close each card by the builder's one call (the guide's Derived/Test/ToyasCard.lean, 'card_holds'). Laid BY PROGRAM, IN A SANDBOX (cutbox-door.mjs). By AI agents, Wed Nov 11 2026. No macro, syntax, notation, axiom, sorry.
-/
import Derived.Test.YtdpcdbeklccfnaaGreatDoorRows
import GoSem.ClaimSeven
namespace Go.Proofs.YtdpcdbeklccfnaaGreatDoor
namespace Rows

/-- THE TIED CARD OF 'griffelaw11.EyeFinds'. -/
def eyeFindsCard : Claim7 := { stood := { row := eyeFindsRow, standIns := [], harness := (true, "11f555c41b1246a1984791e943c1f06c14da1a3e62ebc8bcc78f023cea08237b"), looks := false }, kinds := [], alts := [], laidByText := true, laidKinds := [.data, .pinned], laidTests := true, laidLooks := .later }
def EyeFindsCardSaid : Prop := Claim7.holds Tryz.pinned (.plain (OpenSpec.ofChange eyeFindsSpec)) eyeFindsCard

/-- THE SECOND FORM's CARD OF 'griffelaw11.EyeFinds'. -/
def eyeFindsUptoCard : Claim7 := { stood := { row := eyeFindsUptoRow, standIns := [], harness := (true, "11f555c41b1246a1984791e943c1f06c14da1a3e62ebc8bcc78f023cea08237b"), looks := false }, kinds := [], alts := [], laidByText := true, laidKinds := [.data, .pinned], laidTests := true, laidLooks := .later }
def EyeFindsUptoCardSaid : Prop := Claim7.holds Tryz.pinned (.plain (OpenSpec.upto eyeFindsSpec)) eyeFindsUptoCard
end Rows
end Go.Proofs.YtdpcdbeklccfnaaGreatDoor
