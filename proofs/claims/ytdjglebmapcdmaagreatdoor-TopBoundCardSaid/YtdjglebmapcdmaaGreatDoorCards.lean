/-
  DERIVED. GIVEN WITH THE SEED: THE CARDS: each row of YtdjglebmapcdmaaGreatDoorRows.lean that lists a variable, with what it lists TIED to the program's text (the seventh form; the later family's looks); each row that meets fmt, with fmt's text TOLD by the authors' own Lean function (tested against real Go, not proved from fmt's source: count such statements apart). THE CARD IS WHAT COUNTS. Prove the row's statement (the work); the ties are given (YtdjglebmapcdmaaGreatDoorTie.lean); close each card by the builder's one call (the guide's Derived/Test/ToyasCard.lean, 'card_holds'). Laid BY PROGRAM, IN A SANDBOX (cutbox-door.mjs). By AI agents, Wed Nov 11 2026. No macro, syntax, notation, axiom, sorry.
-/
import Derived.Test.YtdjglebmapcdmaaGreatDoorRows
import GoSem.ClaimSeven
namespace Go.Proofs.YtdjglebmapcdmaaGreatDoor
namespace Rows

/-- THE TIED CARD OF 'griffetop.TopBound'. -/
def topBoundCard : Claim7 := { stood := { row := topBoundRow, standIns := [], harness := (true, "b03a3b53fca74d9725d54c2744b561c9bff70cf0d1385ca72bf449b81f85b806"), looks := false }, kinds := [], alts := [], laidByText := true, laidKinds := [.data, .data], laidTests := true, laidLooks := .later }
def TopBoundCardSaid : Prop := Claim7.holds Tryz.pinned (.plain (OpenSpec.ofChange topBoundSpec)) topBoundCard

/-- THE SECOND FORM's CARD OF 'griffetop.TopBound'. -/
def topBoundUptoCard : Claim7 := { stood := { row := topBoundUptoRow, standIns := [], harness := (true, "b03a3b53fca74d9725d54c2744b561c9bff70cf0d1385ca72bf449b81f85b806"), looks := false }, kinds := [], alts := [], laidByText := true, laidKinds := [.data, .data], laidTests := true, laidLooks := .later }
def TopBoundUptoCardSaid : Prop := Claim7.holds Tryz.pinned (.plain (OpenSpec.upto topBoundSpec)) topBoundUptoCard
end Rows
end Go.Proofs.YtdjglebmapcdmaaGreatDoor
