/- A framework for walks, contracts of functions, and their proofs: part 6 (10). -/
import Derived.ProofKit
import Derived.OpenShut
import Derived.LaidMore
import Derived.Carry
import Derived.Lib.SmallJoins
import Derived.Deep.Slices
import Derived.Test.YtfblnfcecfjbpaaGreatM6H
noncomputable section
set_option linter.unusedVariables false
set_option maxRecDepth 100000
namespace Go.Proofs.Tryz
open Go Go.V
theorem Q2z:HP Q1b (Bi Q1b 300) Wh [] 43 mLost.args (Wm mLost.bl CH.empty) (λu h'=>Lx 20 u mLost.v&&h'.same (XH mLost.fr (Wm mLost.bl CH.empty)))=true:=by kernel_rfl
end Go.Proofs.Tryz
