/-
  DERIVED. GIVEN WITH THE SEED: THE CARDS: each row of YthponhelanafhaaGreatDoorRows.lean that lists a variable, with what it lists TIED to the program's text (the seventh form; the later family's looks); each row that meets fmt, with fmt's text TOLD by the authors' own Lean function (tested against real Go, not proved from fmt's source: count such statements apart). THE CARD IS WHAT COUNTS. Prove the row's statement (the work); the ties are given (YthponhelanafhaaGreatDoorTie.lean); close each card by the builder's one call (the guide's Derived/Test/ToyasCard.lean, 'card_holds'). Laid BY PROGRAM, IN A SANDBOX (cutbox-door.mjs). By AI agents, Wed Nov 11 2026. No macro, syntax, notation, axiom, sorry.
-/
import Derived.Test.YthponhelanafhaaGreatDoorRows
import GoSem.ClaimSeven
namespace Go.Proofs.YthponhelanafhaaGreatDoor
namespace Rows

/-- THE TIED CARD OF 'griffetop.TopYarnYards'. -/
def topYarnYardsCard : Claim7 := { stood := { row := topYarnYardsRow, standIns := [], harness := (true, "eb5fd9c99290e6a9f4945777d4bff1d726cddd640526fc614303793eb234f2ff"), looks := false }, kinds := [], alts := [], laidByText := true, laidKinds := [.data, .data], laidTests := true, laidLooks := .later }
def TopYarnYardsCardSaid : Prop := Claim7.holds Tryz.pinned (.plain (OpenSpec.ofChange topYarnYardsSpec)) topYarnYardsCard

/-- THE TIED CARD OF 'griffetop.TopLotsCut'. -/
def topLotsCutCard : Claim7 := { stood := { row := topLotsCutRow, standIns := [], harness := (true, "eb5fd9c99290e6a9f4945777d4bff1d726cddd640526fc614303793eb234f2ff"), looks := false }, kinds := [], alts := [], laidByText := true, laidKinds := [.data, .data], laidTests := true, laidLooks := .later }
def TopLotsCutCardSaid : Prop := Claim7.holds Tryz.pinned (.plain (OpenSpec.ofChange topLotsCutSpec)) topLotsCutCard

/-- THE SECOND FORM's CARD OF 'griffetop.TopYarnYards'. -/
def topYarnYardsUptoCard : Claim7 := { stood := { row := topYarnYardsUptoRow, standIns := [], harness := (true, "eb5fd9c99290e6a9f4945777d4bff1d726cddd640526fc614303793eb234f2ff"), looks := false }, kinds := [], alts := [], laidByText := true, laidKinds := [.data, .data], laidTests := true, laidLooks := .later }
def TopYarnYardsUptoCardSaid : Prop := Claim7.holds Tryz.pinned (.plain (OpenSpec.upto topYarnYardsSpec)) topYarnYardsUptoCard

/-- THE SECOND FORM's CARD OF 'griffetop.TopLotsCut'. -/
def topLotsCutUptoCard : Claim7 := { stood := { row := topLotsCutUptoRow, standIns := [], harness := (true, "eb5fd9c99290e6a9f4945777d4bff1d726cddd640526fc614303793eb234f2ff"), looks := false }, kinds := [], alts := [], laidByText := true, laidKinds := [.data, .data], laidTests := true, laidLooks := .later }
def TopLotsCutUptoCardSaid : Prop := Claim7.holds Tryz.pinned (.plain (OpenSpec.upto topLotsCutSpec)) topLotsCutUptoCard
end Rows
end Go.Proofs.YthponhelanafhaaGreatDoor
