/-
  DERIVED. GIVEN WITH THE SEED: THE CARDS: each row of YtdbeaoaplpddnaaGreatDoorRows.lean that lists a variable, with what it lists TIED to the program's text (the seventh form; the later family's looks); each row that meets fmt, with fmt's text TOLD by the authors' own Lean function (tested against real Go, not proved from fmt's source: count such statements apart). THE CARD IS WHAT COUNTS. Prove the row's statement (the work); the ties are given (YtdbeaoaplpddnaaGreatDoorTie.lean); close each card by the builder's one call (the guide's Derived/Test/ToyasCard.lean, 'card_holds'). Laid BY PROGRAM, IN A SANDBOX (cutbox-door.mjs). By AI agents, Wed Nov 11 2026. No macro, syntax, notation, axiom, sorry.
-/
import Derived.Test.YtdbeaoaplpddnaaGreatDoorRows
import GoSem.ClaimSeven
namespace Go.Proofs.YtdbeaoaplpddnaaGreatDoor
namespace Rows

/-- THE TIED CARD OF 'griffetop.TopTangledLots'. -/
def topTangledLotsCard : Claim7 := { stood := { row := topTangledLotsRow, standIns := [], harness := (true, "a75433044e13259a84bc4584641928f7d0300daaabd6bb5579486c4ef0813325"), looks := false }, kinds := [], alts := [], laidByText := true, laidKinds := [.data, .data], laidTests := true, laidLooks := .later }
def TopTangledLotsCardSaid : Prop := Claim7.holds Tryz.pinned (.plain (OpenSpec.ofChange topTangledLotsSpec)) topTangledLotsCard

/-- THE TIED CARD OF 'griffetop.TopTwoColours'. -/
def topTwoColoursCard : Claim7 := { stood := { row := topTwoColoursRow, standIns := [], harness := (true, "a75433044e13259a84bc4584641928f7d0300daaabd6bb5579486c4ef0813325"), looks := false }, kinds := [], alts := [], laidByText := true, laidKinds := [.data, .data], laidTests := true, laidLooks := .later }
def TopTwoColoursCardSaid : Prop := Claim7.holds Tryz.pinned (.plain (OpenSpec.ofChange topTwoColoursSpec)) topTwoColoursCard

/-- THE TIED CARD OF 'griffetop.TopWarpYarn'. -/
def topWarpYarnCard : Claim7 := { stood := { row := topWarpYarnRow, standIns := [], harness := (true, "a75433044e13259a84bc4584641928f7d0300daaabd6bb5579486c4ef0813325"), looks := false }, kinds := [], alts := [], laidByText := true, laidKinds := [.data, .data], laidTests := true, laidLooks := .later }
def TopWarpYarnCardSaid : Prop := Claim7.holds Tryz.pinned (.plain (OpenSpec.ofChange topWarpYarnSpec)) topWarpYarnCard

/-- THE SECOND FORM's CARD OF 'griffetop.TopTangledLots'. -/
def topTangledLotsUptoCard : Claim7 := { stood := { row := topTangledLotsUptoRow, standIns := [], harness := (true, "a75433044e13259a84bc4584641928f7d0300daaabd6bb5579486c4ef0813325"), looks := false }, kinds := [], alts := [], laidByText := true, laidKinds := [.data, .data], laidTests := true, laidLooks := .later }
def TopTangledLotsUptoCardSaid : Prop := Claim7.holds Tryz.pinned (.plain (OpenSpec.upto topTangledLotsSpec)) topTangledLotsUptoCard

/-- THE SECOND FORM's CARD OF 'griffetop.TopTwoColours'. -/
def topTwoColoursUptoCard : Claim7 := { stood := { row := topTwoColoursUptoRow, standIns := [], harness := (true, "a75433044e13259a84bc4584641928f7d0300daaabd6bb5579486c4ef0813325"), looks := false }, kinds := [], alts := [], laidByText := true, laidKinds := [.data, .data], laidTests := true, laidLooks := .later }
def TopTwoColoursUptoCardSaid : Prop := Claim7.holds Tryz.pinned (.plain (OpenSpec.upto topTwoColoursSpec)) topTwoColoursUptoCard

/-- THE SECOND FORM's CARD OF 'griffetop.TopWarpYarn'. -/
def topWarpYarnUptoCard : Claim7 := { stood := { row := topWarpYarnUptoRow, standIns := [], harness := (true, "a75433044e13259a84bc4584641928f7d0300daaabd6bb5579486c4ef0813325"), looks := false }, kinds := [], alts := [], laidByText := true, laidKinds := [.data, .data], laidTests := true, laidLooks := .later }
def TopWarpYarnUptoCardSaid : Prop := Claim7.holds Tryz.pinned (.plain (OpenSpec.upto topWarpYarnSpec)) topWarpYarnUptoCard
end Rows
end Go.Proofs.YtdbeaoaplpddnaaGreatDoor
