/-
  DERIVED. GIVEN WITH THE SEED: THE CARDS: each row of YtfidkfoillgeeaaGreatDoorRows.lean that lists a variable, with what it lists TIED to the program's text (the seventh form; the later family's looks); each row that meets fmt, with fmt's text TOLD by the authors' own Lean function (tested against real Go, not proved from fmt's source: count such statements apart). THE CARD IS WHAT COUNTS. Prove the row's statement (the work); the ties are given (YtfidkfoillgeeaaGreatDoorTie.lean); close each card by the builder's one call (the guide's Derived/Test/ToyasCard.lean, 'card_holds'). Laid BY PROGRAM, IN A SANDBOX (cutbox-door.mjs). By AI agents, Wed Nov 11 2026. No macro, syntax, notation, axiom, sorry.
-/
import Derived.Test.YtfidkfoillgeeaaGreatDoorRows
import GoSem.ClaimSeven
namespace Go.Proofs.YtfidkfoillgeeaaGreatDoor
namespace Rows

/-- THE TIED CARD OF 'griffelaw03.TieWorsts'. -/
def tieWorstsCard : Claim7 := { stood := { row := tieWorstsRow, standIns := [], harness := (true, "3a643211d638034be76af691f7a0388a5caa550fead120ab734a96cb61b478f5"), looks := false }, kinds := [], alts := [], laidByText := true, laidKinds := [.data, .pinned], laidTests := true, laidLooks := .later }
def TieWorstsCardSaid : Prop := Claim7.holds Tryz.pinned (.plain (OpenSpec.ofChange tieWorstsSpec)) tieWorstsCard

/-- THE TIED CARD OF 'griffelaw03.TieEdges'. -/
def tieEdgesCard : Claim7 := { stood := { row := tieEdgesRow, standIns := [], harness := (true, "3a643211d638034be76af691f7a0388a5caa550fead120ab734a96cb61b478f5"), looks := false }, kinds := [], alts := [], laidByText := true, laidKinds := [.data, .pinned], laidTests := true, laidLooks := .later }
def TieEdgesCardSaid : Prop := Claim7.holds Tryz.pinned (.plain (OpenSpec.ofChange tieEdgesSpec)) tieEdgesCard

/-- THE TIED CARD OF 'griffelaw03.TieBound'. -/
def tieBoundCard : Claim7 := { stood := { row := tieBoundRow, standIns := [], harness := (true, "3a643211d638034be76af691f7a0388a5caa550fead120ab734a96cb61b478f5"), looks := false }, kinds := [], alts := [], laidByText := true, laidKinds := [.data, .pinned], laidTests := true, laidLooks := .later }
def TieBoundCardSaid : Prop := Claim7.holds Tryz.pinned (.plain (OpenSpec.ofChange tieBoundSpec)) tieBoundCard

/-- THE SECOND FORM's CARD OF 'griffelaw03.TieWorsts'. -/
def tieWorstsUptoCard : Claim7 := { stood := { row := tieWorstsUptoRow, standIns := [], harness := (true, "3a643211d638034be76af691f7a0388a5caa550fead120ab734a96cb61b478f5"), looks := false }, kinds := [], alts := [], laidByText := true, laidKinds := [.data, .pinned], laidTests := true, laidLooks := .later }
def TieWorstsUptoCardSaid : Prop := Claim7.holds Tryz.pinned (.plain (OpenSpec.upto tieWorstsSpec)) tieWorstsUptoCard

/-- THE SECOND FORM's CARD OF 'griffelaw03.TieEdges'. -/
def tieEdgesUptoCard : Claim7 := { stood := { row := tieEdgesUptoRow, standIns := [], harness := (true, "3a643211d638034be76af691f7a0388a5caa550fead120ab734a96cb61b478f5"), looks := false }, kinds := [], alts := [], laidByText := true, laidKinds := [.data, .pinned], laidTests := true, laidLooks := .later }
def TieEdgesUptoCardSaid : Prop := Claim7.holds Tryz.pinned (.plain (OpenSpec.upto tieEdgesSpec)) tieEdgesUptoCard

/-- THE SECOND FORM's CARD OF 'griffelaw03.TieBound'. -/
def tieBoundUptoCard : Claim7 := { stood := { row := tieBoundUptoRow, standIns := [], harness := (true, "3a643211d638034be76af691f7a0388a5caa550fead120ab734a96cb61b478f5"), looks := false }, kinds := [], alts := [], laidByText := true, laidKinds := [.data, .pinned], laidTests := true, laidLooks := .later }
def TieBoundUptoCardSaid : Prop := Claim7.holds Tryz.pinned (.plain (OpenSpec.upto tieBoundSpec)) tieBoundUptoCard
end Rows
end Go.Proofs.YtfidkfoillgeeaaGreatDoor
