/- A framework for walks, contracts of functions, and their proofs: part 6 (13). -/
import Derived.ProofKit
import Derived.OpenShut
import Derived.LaidMore
import Derived.Carry
import Derived.Lib.SmallJoins
import Derived.Deep.Slices
import Derived.Test.YtfblnfcecfjbpaaGreatM6K
noncomputable section
set_option linter.unusedVariables false
set_option maxRecDepth 100000
namespace Go.Proofs.Tryz
open Go Go.V
theorem Q5x {M:Heap}{K:Value->Heap->Prop}(hK:K (.bool true) M):VCalled Tryz.prog 15 [] M K:=Q7e mixed Z46 300 Z0e (by decide) Q1s hK
end Go.Proofs.Tryz
