/-
  DERIVED. GIVEN WITH THE SEED: THE CARDS: each row of YtmcfcleofjngmaaGreatDoorRows.lean that lists a variable, with what it lists TIED to the program's text (the seventh form; the later family's looks); each row that meets fmt, with fmt's text TOLD by the authors' own Lean function (tested against real Go, not proved from fmt's source: count such statements apart). THE CARD IS WHAT COUNTS. Prove the row's statement (the work); the ties are given (YtmcfcleofjngmaaGreatDoorTie.lean); close each card by the builder's one call (the guide's Derived/Test/ToyasCard.lean, 'card_holds'). Laid BY PROGRAM, IN A SANDBOX (cutbox-door.mjs). By AI agents, Wed Nov 11 2026. No macro, syntax, notation, axiom, sorry.
-/
import Derived.Test.YtmcfcleofjngmaaGreatDoorRows
import GoSem.ClaimSeven
namespace Go.Proofs.YtmcfcleofjngmaaGreatDoor
namespace Rows

/-- THE TIED CARD OF 'griffetop.TopClosed'. -/
def topClosedCard : Claim7 := { stood := { row := topClosedRow, standIns := [], harness := (true, "64301b6da3f1bd20bad54c75bfb563892b1935773119c061c9fa2e8cdef16750"), looks := false }, kinds := [], alts := [], laidByText := true, laidKinds := [.data], laidTests := true, laidLooks := .later }
def TopClosedCardSaid : Prop := Claim7.holds Tryz.pinned (.plain (OpenSpec.ofChange topClosedSpec)) topClosedCard

/-- THE TIED CARD OF 'griffetop.TopCopiedChain'. -/
def topCopiedChainCard : Claim7 := { stood := { row := topCopiedChainRow, standIns := [], harness := (true, "64301b6da3f1bd20bad54c75bfb563892b1935773119c061c9fa2e8cdef16750"), looks := false }, kinds := [], alts := [], laidByText := true, laidKinds := [.data], laidTests := true, laidLooks := .later }
def TopCopiedChainCardSaid : Prop := Claim7.holds Tryz.pinned (.plain (OpenSpec.ofChange topCopiedChainSpec)) topCopiedChainCard

/-- THE SECOND FORM's CARD OF 'griffetop.TopClosed'. -/
def topClosedUptoCard : Claim7 := { stood := { row := topClosedUptoRow, standIns := [], harness := (true, "64301b6da3f1bd20bad54c75bfb563892b1935773119c061c9fa2e8cdef16750"), looks := false }, kinds := [], alts := [], laidByText := true, laidKinds := [.data], laidTests := true, laidLooks := .later }
def TopClosedUptoCardSaid : Prop := Claim7.holds Tryz.pinned (.plain (OpenSpec.upto topClosedSpec)) topClosedUptoCard

/-- THE SECOND FORM's CARD OF 'griffetop.TopCopiedChain'. -/
def topCopiedChainUptoCard : Claim7 := { stood := { row := topCopiedChainUptoRow, standIns := [], harness := (true, "64301b6da3f1bd20bad54c75bfb563892b1935773119c061c9fa2e8cdef16750"), looks := false }, kinds := [], alts := [], laidByText := true, laidKinds := [.data], laidTests := true, laidLooks := .later }
def TopCopiedChainUptoCardSaid : Prop := Claim7.holds Tryz.pinned (.plain (OpenSpec.upto topCopiedChainSpec)) topCopiedChainUptoCard
end Rows
end Go.Proofs.YtmcfcleofjngmaaGreatDoor
