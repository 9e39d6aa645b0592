/-
  DERIVED. GIVEN WITH THE SEED: THE CARDS: each row of YtmmimffgljppkaaDoorRows.lean that lists a variable, with what it lists TIED to the program's text (the seventh form; the later family's looks); each row that meets fmt, with fmt's text TOLD by the authors' own Lean function (tested against real Go, not proved from fmt's source: count such statements apart). THE CARD IS WHAT COUNTS. Prove the row's statement (the work); the ties are given (YtmmimffgljppkaaDoorTie.lean); close each card by the builder's one call (the guide's Derived/Test/ToyasCard.lean, 'card_holds'). Laid BY PROGRAM, IN A SANDBOX (cutbox-door.mjs). By AI agents, Wed Nov 11 2026. No macro, syntax, notation, axiom, sorry.
-/
import Derived.Test.YtmmimffgljppkaaDoorRows
import GoSem.ClaimSeven
namespace Go.Proofs.YtmmimffgljppkaaDoor
namespace Rows

/-- THE TIED CARD OF 'griffelaw09.ShadeGram'. -/
def shadeGramCard : Claim7 := { stood := { row := shadeGramRow, standIns := [], harness := (true, "637b2fa21f717f89c80190b321c5a2717d3f48c729300c64275c881598f95926"), looks := false }, kinds := [], alts := [], laidByText := true, laidKinds := [.data, .data], laidTests := true, laidLooks := .later }
def ShadeGramCardSaid : Prop := Claim7.holds Tryd.pinned (.plain (OpenSpec.ofChange shadeGramSpec)) shadeGramCard

/-- THE SECOND FORM's CARD OF 'griffelaw09.ShadeGram'. -/
def shadeGramUptoCard : Claim7 := { stood := { row := shadeGramUptoRow, standIns := [], harness := (true, "637b2fa21f717f89c80190b321c5a2717d3f48c729300c64275c881598f95926"), looks := false }, kinds := [], alts := [], laidByText := true, laidKinds := [.data, .data], laidTests := true, laidLooks := .later }
def ShadeGramUptoCardSaid : Prop := Claim7.holds Tryd.pinned (.plain (OpenSpec.upto shadeGramSpec)) shadeGramUptoCard
end Rows
end Go.Proofs.YtmmimffgljppkaaDoor
