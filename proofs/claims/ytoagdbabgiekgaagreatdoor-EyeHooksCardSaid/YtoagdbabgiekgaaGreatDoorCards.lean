/-
  DERIVED. GIVEN WITH THE SEED: THE CARDS: each row of YtoagdbabgiekgaaGreatDoorRows.lean that lists a variable, with what it lists TIED to the program's text (the seventh form; the later family's looks); each row that meets fmt, with fmt's text TOLD by the authors' own Lean function (tested against real Go, not proved from fmt's source: count such statements apart). THE CARD IS WHAT COUNTS. Prove the row's statement (the work); the ties are given (YtoagdbabgiekgaaGreatDoorTie.lean); close each card by the builder's one call (the guide's Derived/Test/ToyasCard.lean, 'card_holds'). Laid BY PROGRAM, IN A SANDBOX (cutbox-door.mjs). By AI agents, Wed Nov 11 2026. No macro, syntax, notation, axiom, sorry.
-/
import Derived.Test.YtoagdbabgiekgaaGreatDoorRows
import GoSem.ClaimSeven
namespace Go.Proofs.YtoagdbabgiekgaaGreatDoor
namespace Rows

/-- THE TIED CARD OF 'griffelaw11.EyeWeaves'. -/
def eyeWeavesCard : Claim7 := { stood := { row := eyeWeavesRow, standIns := [], harness := (true, "86910a0a7b0b87427bf1988de8a0da5ef1deb136f750a7aa3676679f7d9d3ee9"), looks := false }, kinds := [], alts := [], laidByText := true, laidKinds := [.data, .pinned], laidTests := true, laidLooks := .later }
def EyeWeavesCardSaid : Prop := Claim7.holds Tryz.pinned (.plain (OpenSpec.ofChange eyeWeavesSpec)) eyeWeavesCard

/-- THE TIED CARD OF 'griffelaw11.EyeHooks'. -/
def eyeHooksCard : Claim7 := { stood := { row := eyeHooksRow, standIns := [], harness := (true, "86910a0a7b0b87427bf1988de8a0da5ef1deb136f750a7aa3676679f7d9d3ee9"), looks := false }, kinds := [], alts := [], laidByText := true, laidKinds := [.data, .pinned], laidTests := true, laidLooks := .later }
def EyeHooksCardSaid : Prop := Claim7.holds Tryz.pinned (.plain (OpenSpec.ofChange eyeHooksSpec)) eyeHooksCard

/-- THE TIED CARD OF 'griffelaw11.EyeFinds'. -/
def eyeFindsCard : Claim7 := { stood := { row := eyeFindsRow, standIns := [], harness := (true, "86910a0a7b0b87427bf1988de8a0da5ef1deb136f750a7aa3676679f7d9d3ee9"), looks := false }, kinds := [], alts := [], laidByText := true, laidKinds := [.data, .pinned], laidTests := true, laidLooks := .later }
def EyeFindsCardSaid : Prop := Claim7.holds Tryz.pinned (.plain (OpenSpec.ofChange eyeFindsSpec)) eyeFindsCard

/-- THE SECOND FORM's CARD OF 'griffelaw11.EyeWeaves'. -/
def eyeWeavesUptoCard : Claim7 := { stood := { row := eyeWeavesUptoRow, standIns := [], harness := (true, "86910a0a7b0b87427bf1988de8a0da5ef1deb136f750a7aa3676679f7d9d3ee9"), looks := false }, kinds := [], alts := [], laidByText := true, laidKinds := [.data, .pinned], laidTests := true, laidLooks := .later }
def EyeWeavesUptoCardSaid : Prop := Claim7.holds Tryz.pinned (.plain (OpenSpec.upto eyeWeavesSpec)) eyeWeavesUptoCard

/-- THE SECOND FORM's CARD OF 'griffelaw11.EyeHooks'. -/
def eyeHooksUptoCard : Claim7 := { stood := { row := eyeHooksUptoRow, standIns := [], harness := (true, "86910a0a7b0b87427bf1988de8a0da5ef1deb136f750a7aa3676679f7d9d3ee9"), looks := false }, kinds := [], alts := [], laidByText := true, laidKinds := [.data, .pinned], laidTests := true, laidLooks := .later }
def EyeHooksUptoCardSaid : Prop := Claim7.holds Tryz.pinned (.plain (OpenSpec.upto eyeHooksSpec)) eyeHooksUptoCard

/-- THE SECOND FORM's CARD OF 'griffelaw11.EyeFinds'. -/
def eyeFindsUptoCard : Claim7 := { stood := { row := eyeFindsUptoRow, standIns := [], harness := (true, "86910a0a7b0b87427bf1988de8a0da5ef1deb136f750a7aa3676679f7d9d3ee9"), looks := false }, kinds := [], alts := [], laidByText := true, laidKinds := [.data, .pinned], laidTests := true, laidLooks := .later }
def EyeFindsUptoCardSaid : Prop := Claim7.holds Tryz.pinned (.plain (OpenSpec.upto eyeFindsSpec)) eyeFindsUptoCard
end Rows
end Go.Proofs.YtoagdbabgiekgaaGreatDoor
