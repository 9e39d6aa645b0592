/-
  DERIVED. GIVEN WITH THE SEED: THE CARDS: each row of YtglndbfamncmaaaDoorRows.lean that lists a variable, with what it lists TIED to the program's text (the seventh form; the later family's looks); each row that meets fmt, with fmt's text TOLD by the authors' own Lean function (tested against real Go, not proved from fmt's source: count such statements apart). THE CARD IS WHAT COUNTS. Prove the row's statement (the work); the ties are given (YtglndbfamncmaaaDoorTie.lean); close each card by the builder's one call (the guide's Derived/Test/ToyasCard.lean, 'card_holds'). Laid BY PROGRAM, IN A SANDBOX (cutbox-door.mjs). By AI agents, Wed Nov 11 2026. No macro, syntax, notation, axiom, sorry.
-/
import Derived.Test.YtglndbfamncmaaaDoorRows
import GoSem.ClaimSeven
namespace Go.Proofs.YtglndbfamncmaaaDoor
namespace Rows

/-- THE TIED CARD OF 'griffelaw11.EyeTrue'. -/
def eyeTrueCard : Claim7 := { stood := { row := eyeTrueRow, standIns := [], harness := (true, "cecec2c2d9828f1afc311786028147dce88bc2b0de7f6a70690dd81edd3ac7f0"), looks := false }, kinds := [], alts := [], laidByText := true, laidKinds := [.data, .pinned], laidTests := true, laidLooks := .later }
def EyeTrueCardSaid : Prop := Claim7.holds Tryd.pinned (.plain (OpenSpec.ofChange eyeTrueSpec)) eyeTrueCard

/-- THE SECOND FORM's CARD OF 'griffelaw11.EyeTrue'. -/
def eyeTrueUptoCard : Claim7 := { stood := { row := eyeTrueUptoRow, standIns := [], harness := (true, "cecec2c2d9828f1afc311786028147dce88bc2b0de7f6a70690dd81edd3ac7f0"), looks := false }, kinds := [], alts := [], laidByText := true, laidKinds := [.data, .pinned], laidTests := true, laidLooks := .later }
def EyeTrueUptoCardSaid : Prop := Claim7.holds Tryd.pinned (.plain (OpenSpec.upto eyeTrueSpec)) eyeTrueUptoCard
end Rows
end Go.Proofs.YtglndbfamncmaaaDoor
