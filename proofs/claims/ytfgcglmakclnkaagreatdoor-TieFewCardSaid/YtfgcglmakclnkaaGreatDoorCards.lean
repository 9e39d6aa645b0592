/-
  DERIVED. GIVEN WITH THE SEED: THE CARDS: each row of YtfgcglmakclnkaaGreatDoorRows.lean that lists a variable, with what it lists TIED to the program's text (the seventh form; the later family's looks); each row that meets fmt, with fmt's text TOLD by the authors' own Lean function (tested against real Go, not proved from fmt's source: count such statements apart). THE CARD IS WHAT COUNTS. Prove the row's statement (the work); the ties are given (YtfgcglmakclnkaaGreatDoorTie.lean); close each card by the builder's one call (the guide's Derived/Test/ToyasCard.lean, 'card_holds'). Laid BY PROGRAM, IN A SANDBOX (cutbox-door.mjs). By AI agents, Wed Nov 11 2026. No macro, syntax, notation, axiom, sorry.
-/
import Derived.Test.YtfgcglmakclnkaaGreatDoorRows
import GoSem.ClaimSeven
namespace Go.Proofs.YtfgcglmakclnkaaGreatDoor
namespace Rows

/-- THE TIED CARD OF 'griffelaw03.TieMakes'. -/
def tieMakesCard : Claim7 := { stood := { row := tieMakesRow, standIns := [], harness := (true, "22402b6e71ae08bf218b3ef6afdf6a1196123caef7b16fb400dbbf2d2339aea5"), looks := false }, kinds := [], alts := [], laidByText := true, laidKinds := [.data, .pinned], laidTests := true, laidLooks := .later }
def TieMakesCardSaid : Prop := Claim7.holds Tryz.pinned (.plain (OpenSpec.ofChange tieMakesSpec)) tieMakesCard

/-- THE TIED CARD OF 'griffelaw03.TieWeaves'. -/
def tieWeavesCard : Claim7 := { stood := { row := tieWeavesRow, standIns := [], harness := (true, "22402b6e71ae08bf218b3ef6afdf6a1196123caef7b16fb400dbbf2d2339aea5"), looks := false }, kinds := [], alts := [], laidByText := true, laidKinds := [.data, .pinned], laidTests := true, laidLooks := .later }
def TieWeavesCardSaid : Prop := Claim7.holds Tryz.pinned (.plain (OpenSpec.ofChange tieWeavesSpec)) tieWeavesCard

/-- THE TIED CARD OF 'griffelaw03.TieUnweaves'. -/
def tieUnweavesCard : Claim7 := { stood := { row := tieUnweavesRow, standIns := [], harness := (true, "22402b6e71ae08bf218b3ef6afdf6a1196123caef7b16fb400dbbf2d2339aea5"), looks := false }, kinds := [], alts := [], laidByText := true, laidKinds := [.data, .pinned], laidTests := true, laidLooks := .later }
def TieUnweavesCardSaid : Prop := Claim7.holds Tryz.pinned (.plain (OpenSpec.ofChange tieUnweavesSpec)) tieUnweavesCard

/-- THE TIED CARD OF 'griffelaw03.TieFewests'. -/
def tieFewestsCard : Claim7 := { stood := { row := tieFewestsRow, standIns := [], harness := (true, "22402b6e71ae08bf218b3ef6afdf6a1196123caef7b16fb400dbbf2d2339aea5"), looks := false }, kinds := [], alts := [], laidByText := true, laidKinds := [.data, .pinned], laidTests := true, laidLooks := .later }
def TieFewestsCardSaid : Prop := Claim7.holds Tryz.pinned (.plain (OpenSpec.ofChange tieFewestsSpec)) tieFewestsCard

/-- THE TIED CARD OF 'griffelaw03.TieWorsts'. -/
def tieWorstsCard : Claim7 := { stood := { row := tieWorstsRow, standIns := [], harness := (true, "22402b6e71ae08bf218b3ef6afdf6a1196123caef7b16fb400dbbf2d2339aea5"), looks := false }, kinds := [], alts := [], laidByText := true, laidKinds := [.data, .pinned], laidTests := true, laidLooks := .later }
def TieWorstsCardSaid : Prop := Claim7.holds Tryz.pinned (.plain (OpenSpec.ofChange tieWorstsSpec)) tieWorstsCard

/-- THE TIED CARD OF 'griffelaw03.TieThreads'. -/
def tieThreadsCard : Claim7 := { stood := { row := tieThreadsRow, standIns := [], harness := (true, "22402b6e71ae08bf218b3ef6afdf6a1196123caef7b16fb400dbbf2d2339aea5"), looks := false }, kinds := [], alts := [], laidByText := true, laidKinds := [.data, .pinned], laidTests := true, laidLooks := .later }
def TieThreadsCardSaid : Prop := Claim7.holds Tryz.pinned (.plain (OpenSpec.ofChange tieThreadsSpec)) tieThreadsCard

/-- THE TIED CARD OF 'griffelaw03.TieFew'. -/
def tieFewCard : Claim7 := { stood := { row := tieFewRow, standIns := [], harness := (true, "22402b6e71ae08bf218b3ef6afdf6a1196123caef7b16fb400dbbf2d2339aea5"), looks := false }, kinds := [], alts := [], laidByText := true, laidKinds := [.data, .pinned], laidTests := true, laidLooks := .later }
def TieFewCardSaid : Prop := Claim7.holds Tryz.pinned (.plain (OpenSpec.ofChange tieFewSpec)) tieFewCard

/-- THE TIED CARD OF 'griffelaw03.TieGroups'. -/
def tieGroupsCard : Claim7 := { stood := { row := tieGroupsRow, standIns := [], harness := (true, "22402b6e71ae08bf218b3ef6afdf6a1196123caef7b16fb400dbbf2d2339aea5"), looks := false }, kinds := [], alts := [], laidByText := true, laidKinds := [.data, .pinned], laidTests := true, laidLooks := .later }
def TieGroupsCardSaid : Prop := Claim7.holds Tryz.pinned (.plain (OpenSpec.ofChange tieGroupsSpec)) tieGroupsCard

/-- THE TIED CARD OF 'griffelaw03.TieBesides'. -/
def tieBesidesCard : Claim7 := { stood := { row := tieBesidesRow, standIns := [], harness := (true, "22402b6e71ae08bf218b3ef6afdf6a1196123caef7b16fb400dbbf2d2339aea5"), looks := false }, kinds := [], alts := [], laidByText := true, laidKinds := [.data, .pinned], laidTests := true, laidLooks := .later }
def TieBesidesCardSaid : Prop := Claim7.holds Tryz.pinned (.plain (OpenSpec.ofChange tieBesidesSpec)) tieBesidesCard

/-- THE TIED CARD OF 'griffelaw03.TieEdges'. -/
def tieEdgesCard : Claim7 := { stood := { row := tieEdgesRow, standIns := [], harness := (true, "22402b6e71ae08bf218b3ef6afdf6a1196123caef7b16fb400dbbf2d2339aea5"), looks := false }, kinds := [], alts := [], laidByText := true, laidKinds := [.data, .pinned], laidTests := true, laidLooks := .later }
def TieEdgesCardSaid : Prop := Claim7.holds Tryz.pinned (.plain (OpenSpec.ofChange tieEdgesSpec)) tieEdgesCard

/-- THE TIED CARD OF 'griffelaw03.TieBound'. -/
def tieBoundCard : Claim7 := { stood := { row := tieBoundRow, standIns := [], harness := (true, "22402b6e71ae08bf218b3ef6afdf6a1196123caef7b16fb400dbbf2d2339aea5"), looks := false }, kinds := [], alts := [], laidByText := true, laidKinds := [.data, .pinned], laidTests := true, laidLooks := .later }
def TieBoundCardSaid : Prop := Claim7.holds Tryz.pinned (.plain (OpenSpec.ofChange tieBoundSpec)) tieBoundCard

/-- THE SECOND FORM's CARD OF 'griffelaw03.TieMakes'. -/
def tieMakesUptoCard : Claim7 := { stood := { row := tieMakesUptoRow, standIns := [], harness := (true, "22402b6e71ae08bf218b3ef6afdf6a1196123caef7b16fb400dbbf2d2339aea5"), looks := false }, kinds := [], alts := [], laidByText := true, laidKinds := [.data, .pinned], laidTests := true, laidLooks := .later }
def TieMakesUptoCardSaid : Prop := Claim7.holds Tryz.pinned (.plain (OpenSpec.upto tieMakesSpec)) tieMakesUptoCard

/-- THE SECOND FORM's CARD OF 'griffelaw03.TieWeaves'. -/
def tieWeavesUptoCard : Claim7 := { stood := { row := tieWeavesUptoRow, standIns := [], harness := (true, "22402b6e71ae08bf218b3ef6afdf6a1196123caef7b16fb400dbbf2d2339aea5"), looks := false }, kinds := [], alts := [], laidByText := true, laidKinds := [.data, .pinned], laidTests := true, laidLooks := .later }
def TieWeavesUptoCardSaid : Prop := Claim7.holds Tryz.pinned (.plain (OpenSpec.upto tieWeavesSpec)) tieWeavesUptoCard

/-- THE SECOND FORM's CARD OF 'griffelaw03.TieUnweaves'. -/
def tieUnweavesUptoCard : Claim7 := { stood := { row := tieUnweavesUptoRow, standIns := [], harness := (true, "22402b6e71ae08bf218b3ef6afdf6a1196123caef7b16fb400dbbf2d2339aea5"), looks := false }, kinds := [], alts := [], laidByText := true, laidKinds := [.data, .pinned], laidTests := true, laidLooks := .later }
def TieUnweavesUptoCardSaid : Prop := Claim7.holds Tryz.pinned (.plain (OpenSpec.upto tieUnweavesSpec)) tieUnweavesUptoCard

/-- THE SECOND FORM's CARD OF 'griffelaw03.TieFewests'. -/
def tieFewestsUptoCard : Claim7 := { stood := { row := tieFewestsUptoRow, standIns := [], harness := (true, "22402b6e71ae08bf218b3ef6afdf6a1196123caef7b16fb400dbbf2d2339aea5"), looks := false }, kinds := [], alts := [], laidByText := true, laidKinds := [.data, .pinned], laidTests := true, laidLooks := .later }
def TieFewestsUptoCardSaid : Prop := Claim7.holds Tryz.pinned (.plain (OpenSpec.upto tieFewestsSpec)) tieFewestsUptoCard

/-- THE SECOND FORM's CARD OF 'griffelaw03.TieWorsts'. -/
def tieWorstsUptoCard : Claim7 := { stood := { row := tieWorstsUptoRow, standIns := [], harness := (true, "22402b6e71ae08bf218b3ef6afdf6a1196123caef7b16fb400dbbf2d2339aea5"), looks := false }, kinds := [], alts := [], laidByText := true, laidKinds := [.data, .pinned], laidTests := true, laidLooks := .later }
def TieWorstsUptoCardSaid : Prop := Claim7.holds Tryz.pinned (.plain (OpenSpec.upto tieWorstsSpec)) tieWorstsUptoCard

/-- THE SECOND FORM's CARD OF 'griffelaw03.TieThreads'. -/
def tieThreadsUptoCard : Claim7 := { stood := { row := tieThreadsUptoRow, standIns := [], harness := (true, "22402b6e71ae08bf218b3ef6afdf6a1196123caef7b16fb400dbbf2d2339aea5"), looks := false }, kinds := [], alts := [], laidByText := true, laidKinds := [.data, .pinned], laidTests := true, laidLooks := .later }
def TieThreadsUptoCardSaid : Prop := Claim7.holds Tryz.pinned (.plain (OpenSpec.upto tieThreadsSpec)) tieThreadsUptoCard

/-- THE SECOND FORM's CARD OF 'griffelaw03.TieFew'. -/
def tieFewUptoCard : Claim7 := { stood := { row := tieFewUptoRow, standIns := [], harness := (true, "22402b6e71ae08bf218b3ef6afdf6a1196123caef7b16fb400dbbf2d2339aea5"), looks := false }, kinds := [], alts := [], laidByText := true, laidKinds := [.data, .pinned], laidTests := true, laidLooks := .later }
def TieFewUptoCardSaid : Prop := Claim7.holds Tryz.pinned (.plain (OpenSpec.upto tieFewSpec)) tieFewUptoCard

/-- THE SECOND FORM's CARD OF 'griffelaw03.TieGroups'. -/
def tieGroupsUptoCard : Claim7 := { stood := { row := tieGroupsUptoRow, standIns := [], harness := (true, "22402b6e71ae08bf218b3ef6afdf6a1196123caef7b16fb400dbbf2d2339aea5"), looks := false }, kinds := [], alts := [], laidByText := true, laidKinds := [.data, .pinned], laidTests := true, laidLooks := .later }
def TieGroupsUptoCardSaid : Prop := Claim7.holds Tryz.pinned (.plain (OpenSpec.upto tieGroupsSpec)) tieGroupsUptoCard

/-- THE SECOND FORM's CARD OF 'griffelaw03.TieBesides'. -/
def tieBesidesUptoCard : Claim7 := { stood := { row := tieBesidesUptoRow, standIns := [], harness := (true, "22402b6e71ae08bf218b3ef6afdf6a1196123caef7b16fb400dbbf2d2339aea5"), looks := false }, kinds := [], alts := [], laidByText := true, laidKinds := [.data, .pinned], laidTests := true, laidLooks := .later }
def TieBesidesUptoCardSaid : Prop := Claim7.holds Tryz.pinned (.plain (OpenSpec.upto tieBesidesSpec)) tieBesidesUptoCard

/-- THE SECOND FORM's CARD OF 'griffelaw03.TieEdges'. -/
def tieEdgesUptoCard : Claim7 := { stood := { row := tieEdgesUptoRow, standIns := [], harness := (true, "22402b6e71ae08bf218b3ef6afdf6a1196123caef7b16fb400dbbf2d2339aea5"), looks := false }, kinds := [], alts := [], laidByText := true, laidKinds := [.data, .pinned], laidTests := true, laidLooks := .later }
def TieEdgesUptoCardSaid : Prop := Claim7.holds Tryz.pinned (.plain (OpenSpec.upto tieEdgesSpec)) tieEdgesUptoCard

/-- THE SECOND FORM's CARD OF 'griffelaw03.TieBound'. -/
def tieBoundUptoCard : Claim7 := { stood := { row := tieBoundUptoRow, standIns := [], harness := (true, "22402b6e71ae08bf218b3ef6afdf6a1196123caef7b16fb400dbbf2d2339aea5"), looks := false }, kinds := [], alts := [], laidByText := true, laidKinds := [.data, .pinned], laidTests := true, laidLooks := .later }
def TieBoundUptoCardSaid : Prop := Claim7.holds Tryz.pinned (.plain (OpenSpec.upto tieBoundSpec)) tieBoundUptoCard
end Rows
end Go.Proofs.YtfgcglmakclnkaaGreatDoor
