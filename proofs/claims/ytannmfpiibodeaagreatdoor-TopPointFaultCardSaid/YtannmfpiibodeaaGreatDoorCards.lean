/-
  DERIVED. GIVEN WITH THE SEED: THE CARDS: each row of YtannmfpiibodeaaGreatDoorRows.lean that lists a variable, with what it lists TIED to the program's text (the seventh form; the later family's looks); each row that meets fmt, with fmt's text TOLD by the authors' own Lean function (tested against real Go, not proved from fmt's source: count such statements apart). THE CARD IS WHAT COUNTS. Prove the row's statement (the work); the ties are given (YtannmfpiibodeaaGreatDoorTie.lean); close each card by the builder's one call (the guide's Derived/Test/ToyasCard.lean, 'card_holds'). Laid BY PROGRAM, IN A SANDBOX (cutbox-door.mjs). By AI agents, Wed Nov 11 2026. No macro, syntax, notation, axiom, sorry.
-/
import Derived.Test.YtannmfpiibodeaaGreatDoorRows
import GoSem.ClaimSeven
namespace Go.Proofs.YtannmfpiibodeaaGreatDoor
namespace Rows

/-- THE TIED CARD OF 'griffetop.TopPointFault'. -/
def topPointFaultCard : Claim7 := { stood := { row := topPointFaultRow, standIns := [], harness := (true, "d5f41001a4e61d2cf60b565cb30aef71892b29496762efdebb0cb8bf08ac9dd9"), looks := false }, kinds := [], alts := [], laidByText := true, laidKinds := [.data, .data, .data, .pinned], laidTests := true, laidLooks := .later }
def TopPointFaultCardSaid : Prop := Claim7.holds Tryz.pinned (.plain (OpenSpec.ofChange topPointFaultSpec)) topPointFaultCard

/-- THE SECOND FORM's CARD OF 'griffetop.TopPointFault'. -/
def topPointFaultUptoCard : Claim7 := { stood := { row := topPointFaultUptoRow, standIns := [], harness := (true, "d5f41001a4e61d2cf60b565cb30aef71892b29496762efdebb0cb8bf08ac9dd9"), looks := false }, kinds := [], alts := [], laidByText := true, laidKinds := [.data, .data, .data, .pinned], laidTests := true, laidLooks := .later }
def TopPointFaultUptoCardSaid : Prop := Claim7.holds Tryz.pinned (.plain (OpenSpec.upto topPointFaultSpec)) topPointFaultUptoCard
end Rows
end Go.Proofs.YtannmfpiibodeaaGreatDoor
