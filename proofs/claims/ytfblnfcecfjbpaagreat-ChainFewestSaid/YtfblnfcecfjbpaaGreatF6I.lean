/- A framework for walks, contracts of functions, and their proofs: part 6 (10). -/
import Derived.ProofKit
import Derived.OpenShut
import Derived.LaidMore
import Derived.Carry
import Derived.Lib.SmallJoins
import Derived.Deep.Slices
import Derived.Test.YtfblnfcecfjbpaaGreatF6H
noncomputable section
set_option linter.unusedVariables false
set_option maxRecDepth 100000
namespace Go.Proofs.Tryz
open Go Go.V
theorem IX:DS FK (D6 FK 300) Xx [] 43 mLost.args (XN mLost.bl CH.empty) (λu h'=>TZ 20 u mLost.v&&h'.same (X3 mLost.fr (XN mLost.bl CH.empty)))=true:=by kernel_rfl
end Go.Proofs.Tryz
