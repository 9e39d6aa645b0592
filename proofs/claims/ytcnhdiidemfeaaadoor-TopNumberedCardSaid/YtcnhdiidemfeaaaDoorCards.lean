/-
  DERIVED. GIVEN WITH THE SEED: THE CARDS: each row of YtcnhdiidemfeaaaDoorRows.lean that lists a variable, with what it lists TIED to the program's text (the seventh form; the later family's looks); each row that meets fmt, with fmt's text TOLD by the authors' own Lean function (tested against real Go, not proved from fmt's source: count such statements apart). THE CARD IS WHAT COUNTS. Prove the row's statement (the work); the ties are given (YtcnhdiidemfeaaaDoorTie.lean); close each card by the builder's one call (the guide's Derived/Test/ToyasCard.lean, 'card_holds'). Laid BY PROGRAM, IN A SANDBOX (cutbox-door.mjs). By AI agents, Wed Nov 11 2026. No macro, syntax, notation, axiom, sorry.
-/
import Derived.Test.YtcnhdiidemfeaaaDoorRows
import GoSem.ClaimSeven
namespace Go.Proofs.YtcnhdiidemfeaaaDoor
namespace Rows

/-- THE TIED CARD OF 'griffetop.TopNumbered'. -/
def topNumberedCard : Claim7 := { stood := { row := topNumberedRow, standIns := [], harness := (true, "ddd5768321e9a3fd3d0b8545b87fc831cc22a0f03454a0f1ea9a95b5e9c55921"), looks := false }, kinds := [], alts := [], laidByText := true, laidKinds := [.data], laidTests := true, laidLooks := .later }
def TopNumberedCardSaid : Prop := Claim7.holds Tryd.pinned (.plain (OpenSpec.ofChange topNumberedSpec)) topNumberedCard

/-- THE SECOND FORM's CARD OF 'griffetop.TopNumbered'. -/
def topNumberedUptoCard : Claim7 := { stood := { row := topNumberedUptoRow, standIns := [], harness := (true, "ddd5768321e9a3fd3d0b8545b87fc831cc22a0f03454a0f1ea9a95b5e9c55921"), looks := false }, kinds := [], alts := [], laidByText := true, laidKinds := [.data], laidTests := true, laidLooks := .later }
def TopNumberedUptoCardSaid : Prop := Claim7.holds Tryd.pinned (.plain (OpenSpec.upto topNumberedSpec)) topNumberedUptoCard
end Rows
end Go.Proofs.YtcnhdiidemfeaaaDoor
