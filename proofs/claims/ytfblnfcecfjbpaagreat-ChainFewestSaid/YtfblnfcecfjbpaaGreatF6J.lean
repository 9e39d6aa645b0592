/- A framework for walks, contracts of functions, and their proofs: part 6 (11). -/
import Derived.ProofKit
import Derived.OpenShut
import Derived.LaidMore
import Derived.Carry
import Derived.Lib.SmallJoins
import Derived.Deep.Slices
import Derived.Test.YtfblnfcecfjbpaaGreatF6I
noncomputable section
set_option linter.unusedVariables false
set_option maxRecDepth 100000
namespace Go.Proofs.Tryz
open Go Go.V
theorem Q0r:NM Tryz.prog 43 mLost:=D7 mixed Pt 300 rfl IX
end Go.Proofs.Tryz
