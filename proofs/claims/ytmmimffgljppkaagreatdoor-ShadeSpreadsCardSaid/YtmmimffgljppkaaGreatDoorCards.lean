/-
  DERIVED. GIVEN WITH THE SEED: THE CARDS: each row of YtmmimffgljppkaaGreatDoorRows.lean that lists a variable, with what it lists TIED to the program's text (the seventh form; the later family's looks); each row that meets fmt, with fmt's text TOLD by the authors' own Lean function (tested against real Go, not proved from fmt's source: count such statements apart). THE CARD IS WHAT COUNTS. Prove the row's statement (the work); the ties are given (YtmmimffgljppkaaGreatDoorTie.lean); close each card by the builder's one call (the guide's Derived/Test/ToyasCard.lean, 'card_holds'). Laid BY PROGRAM, IN A SANDBOX (cutbox-door.mjs). By AI agents, Wed Nov 11 2026. No macro, syntax, notation, axiom, sorry.
-/
import Derived.Test.YtmmimffgljppkaaGreatDoorRows
import GoSem.ClaimSeven
namespace Go.Proofs.YtmmimffgljppkaaGreatDoor
namespace Rows

/-- THE TIED CARD OF 'griffelaw09.ShadeSpreads'. -/
def shadeSpreadsCard : Claim7 := { stood := { row := shadeSpreadsRow, standIns := [], harness := (true, "529757614d0dee8b6117c55683c59df07e6e2a8c6a43dc7ee42f80f8973dad4d"), looks := false }, kinds := [], alts := [], laidByText := true, laidKinds := [.data, .data], laidTests := true, laidLooks := .later }
def ShadeSpreadsCardSaid : Prop := Claim7.holds Tryz.pinned (.plain (OpenSpec.ofChange shadeSpreadsSpec)) shadeSpreadsCard

/-- THE TIED CARD OF 'griffelaw09.ShadeScales'. -/
def shadeScalesCard : Claim7 := { stood := { row := shadeScalesRow, standIns := [], harness := (true, "529757614d0dee8b6117c55683c59df07e6e2a8c6a43dc7ee42f80f8973dad4d"), looks := false }, kinds := [], alts := [], laidByText := true, laidKinds := [.data, .data], laidTests := true, laidLooks := .later }
def ShadeScalesCardSaid : Prop := Claim7.holds Tryz.pinned (.plain (OpenSpec.ofChange shadeScalesSpec)) shadeScalesCard

/-- THE TIED CARD OF 'griffelaw09.ShadeReached'. -/
def shadeReachedCard : Claim7 := { stood := { row := shadeReachedRow, standIns := [], harness := (true, "529757614d0dee8b6117c55683c59df07e6e2a8c6a43dc7ee42f80f8973dad4d"), looks := false }, kinds := [], alts := [], laidByText := true, laidKinds := [.data, .data], laidTests := true, laidLooks := .later }
def ShadeReachedCardSaid : Prop := Claim7.holds Tryz.pinned (.plain (OpenSpec.ofChange shadeReachedSpec)) shadeReachedCard

/-- THE SECOND FORM's CARD OF 'griffelaw09.ShadeSpreads'. -/
def shadeSpreadsUptoCard : Claim7 := { stood := { row := shadeSpreadsUptoRow, standIns := [], harness := (true, "529757614d0dee8b6117c55683c59df07e6e2a8c6a43dc7ee42f80f8973dad4d"), looks := false }, kinds := [], alts := [], laidByText := true, laidKinds := [.data, .data], laidTests := true, laidLooks := .later }
def ShadeSpreadsUptoCardSaid : Prop := Claim7.holds Tryz.pinned (.plain (OpenSpec.upto shadeSpreadsSpec)) shadeSpreadsUptoCard

/-- THE SECOND FORM's CARD OF 'griffelaw09.ShadeScales'. -/
def shadeScalesUptoCard : Claim7 := { stood := { row := shadeScalesUptoRow, standIns := [], harness := (true, "529757614d0dee8b6117c55683c59df07e6e2a8c6a43dc7ee42f80f8973dad4d"), looks := false }, kinds := [], alts := [], laidByText := true, laidKinds := [.data, .data], laidTests := true, laidLooks := .later }
def ShadeScalesUptoCardSaid : Prop := Claim7.holds Tryz.pinned (.plain (OpenSpec.upto shadeScalesSpec)) shadeScalesUptoCard

/-- THE SECOND FORM's CARD OF 'griffelaw09.ShadeReached'. -/
def shadeReachedUptoCard : Claim7 := { stood := { row := shadeReachedUptoRow, standIns := [], harness := (true, "529757614d0dee8b6117c55683c59df07e6e2a8c6a43dc7ee42f80f8973dad4d"), looks := false }, kinds := [], alts := [], laidByText := true, laidKinds := [.data, .data], laidTests := true, laidLooks := .later }
def ShadeReachedUptoCardSaid : Prop := Claim7.holds Tryz.pinned (.plain (OpenSpec.upto shadeReachedSpec)) shadeReachedUptoCard
end Rows
end Go.Proofs.YtmmimffgljppkaaGreatDoor
