/-
  DERIVED. GIVEN WITH THE SEED: THE CARDS: each row of YtohogbdobpnkpaaGreatDoorRows.lean that lists a variable, with what it lists TIED to the program's text (the seventh form; the later family's looks); each row that meets fmt, with fmt's text TOLD by the authors' own Lean function (tested against real Go, not proved from fmt's source: count such statements apart). THE CARD IS WHAT COUNTS. Prove the row's statement (the work); the ties are given (YtohogbdobpnkpaaGreatDoorTie.lean); close each card by the builder's one call (the guide's Derived/Test/ToyasCard.lean, 'card_holds'). Laid BY PROGRAM, IN A SANDBOX (cutbox-door.mjs). By AI agents, Wed Nov 11 2026. No macro, syntax, notation, axiom, sorry.
-/
import Derived.Test.YtohogbdobpnkpaaGreatDoorRows
import GoSem.ClaimSeven
namespace Go.Proofs.YtohogbdobpnkpaaGreatDoor
namespace Rows

/-- THE TIED CARD OF 'griffelaw09.ShadeCloths'. -/
def shadeClothsCard : Claim7 := { stood := { row := shadeClothsRow, standIns := [], harness := (true, "836ca38f2be8ddb8d88eaa65a98f3fcdb269f7ac232d781aeb6d8343a442147c"), looks := false }, kinds := [], alts := [], laidByText := true, laidKinds := [.data, .data], laidTests := true, laidLooks := .later }
def ShadeClothsCardSaid : Prop := Claim7.holds Tryz.pinned (.plain (OpenSpec.ofChange shadeClothsSpec)) shadeClothsCard

/-- THE TIED CARD OF 'griffelaw09.ShadeFills'. -/
def shadeFillsCard : Claim7 := { stood := { row := shadeFillsRow, standIns := [], harness := (true, "836ca38f2be8ddb8d88eaa65a98f3fcdb269f7ac232d781aeb6d8343a442147c"), looks := false }, kinds := [], alts := [], laidByText := true, laidKinds := [.data, .data], laidTests := true, laidLooks := .later }
def ShadeFillsCardSaid : Prop := Claim7.holds Tryz.pinned (.plain (OpenSpec.ofChange shadeFillsSpec)) shadeFillsCard

/-- THE TIED CARD OF 'griffelaw09.ShadeRows'. -/
def shadeRowsCard : Claim7 := { stood := { row := shadeRowsRow, standIns := [], harness := (true, "836ca38f2be8ddb8d88eaa65a98f3fcdb269f7ac232d781aeb6d8343a442147c"), looks := false }, kinds := [], alts := [], laidByText := true, laidKinds := [.data, .data], laidTests := true, laidLooks := .later }
def ShadeRowsCardSaid : Prop := Claim7.holds Tryz.pinned (.plain (OpenSpec.ofChange shadeRowsSpec)) shadeRowsCard

/-- THE TIED CARD OF 'griffelaw09.ShadeBooks'. -/
def shadeBooksCard : Claim7 := { stood := { row := shadeBooksRow, standIns := [], harness := (true, "836ca38f2be8ddb8d88eaa65a98f3fcdb269f7ac232d781aeb6d8343a442147c"), looks := false }, kinds := [], alts := [], laidByText := true, laidKinds := [.data, .data], laidTests := true, laidLooks := .later }
def ShadeBooksCardSaid : Prop := Claim7.holds Tryz.pinned (.plain (OpenSpec.ofChange shadeBooksSpec)) shadeBooksCard

/-- THE TIED CARD OF 'griffelaw09.ShadeProof'. -/
def shadeProofCard : Claim7 := { stood := { row := shadeProofRow, standIns := [], harness := (true, "836ca38f2be8ddb8d88eaa65a98f3fcdb269f7ac232d781aeb6d8343a442147c"), looks := false }, kinds := [], alts := [], laidByText := true, laidKinds := [.data, .data], laidTests := true, laidLooks := .later }
def ShadeProofCardSaid : Prop := Claim7.holds Tryz.pinned (.plain (OpenSpec.ofChange shadeProofSpec)) shadeProofCard

/-- THE TIED CARD OF 'griffelaw09.ShadeThreads'. -/
def shadeThreadsCard : Claim7 := { stood := { row := shadeThreadsRow, standIns := [], harness := (true, "836ca38f2be8ddb8d88eaa65a98f3fcdb269f7ac232d781aeb6d8343a442147c"), looks := false }, kinds := [], alts := [], laidByText := true, laidKinds := [.data, .data], laidTests := true, laidLooks := .later }
def ShadeThreadsCardSaid : Prop := Claim7.holds Tryz.pinned (.plain (OpenSpec.ofChange shadeThreadsSpec)) shadeThreadsCard

/-- THE TIED CARD OF 'griffelaw09.ShadeMore'. -/
def shadeMoreCard : Claim7 := { stood := { row := shadeMoreRow, standIns := [], harness := (true, "836ca38f2be8ddb8d88eaa65a98f3fcdb269f7ac232d781aeb6d8343a442147c"), looks := false }, kinds := [], alts := [], laidByText := true, laidKinds := [.data, .data], laidTests := true, laidLooks := .later }
def ShadeMoreCardSaid : Prop := Claim7.holds Tryz.pinned (.plain (OpenSpec.ofChange shadeMoreSpec)) shadeMoreCard

/-- THE TIED CARD OF 'griffelaw09.ShadeWays'. -/
def shadeWaysCard : Claim7 := { stood := { row := shadeWaysRow, standIns := [], harness := (true, "836ca38f2be8ddb8d88eaa65a98f3fcdb269f7ac232d781aeb6d8343a442147c"), looks := false }, kinds := [], alts := [], laidByText := true, laidKinds := [.data, .data], laidTests := true, laidLooks := .later }
def ShadeWaysCardSaid : Prop := Claim7.holds Tryz.pinned (.plain (OpenSpec.ofChange shadeWaysSpec)) shadeWaysCard

/-- THE SECOND FORM's CARD OF 'griffelaw09.ShadeCloths'. -/
def shadeClothsUptoCard : Claim7 := { stood := { row := shadeClothsUptoRow, standIns := [], harness := (true, "836ca38f2be8ddb8d88eaa65a98f3fcdb269f7ac232d781aeb6d8343a442147c"), looks := false }, kinds := [], alts := [], laidByText := true, laidKinds := [.data, .data], laidTests := true, laidLooks := .later }
def ShadeClothsUptoCardSaid : Prop := Claim7.holds Tryz.pinned (.plain (OpenSpec.upto shadeClothsSpec)) shadeClothsUptoCard

/-- THE SECOND FORM's CARD OF 'griffelaw09.ShadeFills'. -/
def shadeFillsUptoCard : Claim7 := { stood := { row := shadeFillsUptoRow, standIns := [], harness := (true, "836ca38f2be8ddb8d88eaa65a98f3fcdb269f7ac232d781aeb6d8343a442147c"), looks := false }, kinds := [], alts := [], laidByText := true, laidKinds := [.data, .data], laidTests := true, laidLooks := .later }
def ShadeFillsUptoCardSaid : Prop := Claim7.holds Tryz.pinned (.plain (OpenSpec.upto shadeFillsSpec)) shadeFillsUptoCard

/-- THE SECOND FORM's CARD OF 'griffelaw09.ShadeRows'. -/
def shadeRowsUptoCard : Claim7 := { stood := { row := shadeRowsUptoRow, standIns := [], harness := (true, "836ca38f2be8ddb8d88eaa65a98f3fcdb269f7ac232d781aeb6d8343a442147c"), looks := false }, kinds := [], alts := [], laidByText := true, laidKinds := [.data, .data], laidTests := true, laidLooks := .later }
def ShadeRowsUptoCardSaid : Prop := Claim7.holds Tryz.pinned (.plain (OpenSpec.upto shadeRowsSpec)) shadeRowsUptoCard

/-- THE SECOND FORM's CARD OF 'griffelaw09.ShadeBooks'. -/
def shadeBooksUptoCard : Claim7 := { stood := { row := shadeBooksUptoRow, standIns := [], harness := (true, "836ca38f2be8ddb8d88eaa65a98f3fcdb269f7ac232d781aeb6d8343a442147c"), looks := false }, kinds := [], alts := [], laidByText := true, laidKinds := [.data, .data], laidTests := true, laidLooks := .later }
def ShadeBooksUptoCardSaid : Prop := Claim7.holds Tryz.pinned (.plain (OpenSpec.upto shadeBooksSpec)) shadeBooksUptoCard

/-- THE SECOND FORM's CARD OF 'griffelaw09.ShadeProof'. -/
def shadeProofUptoCard : Claim7 := { stood := { row := shadeProofUptoRow, standIns := [], harness := (true, "836ca38f2be8ddb8d88eaa65a98f3fcdb269f7ac232d781aeb6d8343a442147c"), looks := false }, kinds := [], alts := [], laidByText := true, laidKinds := [.data, .data], laidTests := true, laidLooks := .later }
def ShadeProofUptoCardSaid : Prop := Claim7.holds Tryz.pinned (.plain (OpenSpec.upto shadeProofSpec)) shadeProofUptoCard

/-- THE SECOND FORM's CARD OF 'griffelaw09.ShadeThreads'. -/
def shadeThreadsUptoCard : Claim7 := { stood := { row := shadeThreadsUptoRow, standIns := [], harness := (true, "836ca38f2be8ddb8d88eaa65a98f3fcdb269f7ac232d781aeb6d8343a442147c"), looks := false }, kinds := [], alts := [], laidByText := true, laidKinds := [.data, .data], laidTests := true, laidLooks := .later }
def ShadeThreadsUptoCardSaid : Prop := Claim7.holds Tryz.pinned (.plain (OpenSpec.upto shadeThreadsSpec)) shadeThreadsUptoCard

/-- THE SECOND FORM's CARD OF 'griffelaw09.ShadeMore'. -/
def shadeMoreUptoCard : Claim7 := { stood := { row := shadeMoreUptoRow, standIns := [], harness := (true, "836ca38f2be8ddb8d88eaa65a98f3fcdb269f7ac232d781aeb6d8343a442147c"), looks := false }, kinds := [], alts := [], laidByText := true, laidKinds := [.data, .data], laidTests := true, laidLooks := .later }
def ShadeMoreUptoCardSaid : Prop := Claim7.holds Tryz.pinned (.plain (OpenSpec.upto shadeMoreSpec)) shadeMoreUptoCard

/-- THE SECOND FORM's CARD OF 'griffelaw09.ShadeWays'. -/
def shadeWaysUptoCard : Claim7 := { stood := { row := shadeWaysUptoRow, standIns := [], harness := (true, "836ca38f2be8ddb8d88eaa65a98f3fcdb269f7ac232d781aeb6d8343a442147c"), looks := false }, kinds := [], alts := [], laidByText := true, laidKinds := [.data, .data], laidTests := true, laidLooks := .later }
def ShadeWaysUptoCardSaid : Prop := Claim7.holds Tryz.pinned (.plain (OpenSpec.upto shadeWaysSpec)) shadeWaysUptoCard
end Rows
end Go.Proofs.YtohogbdobpnkpaaGreatDoor
