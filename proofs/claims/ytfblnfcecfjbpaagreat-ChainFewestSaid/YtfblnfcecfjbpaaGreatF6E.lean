/- A framework for walks, contracts of functions, and their proofs: part 6 (6). -/
import Derived.ProofKit
import Derived.OpenShut
import Derived.LaidMore
import Derived.Carry
import Derived.Lib.SmallJoins
import Derived.Deep.Slices
import Derived.Test.YtfblnfcecfjbpaaGreatF6D
noncomputable section
set_option linter.unusedVariables false
set_option maxRecDepth 100000
namespace Go.Proofs.Tryz
open Go Go.V
theorem AO:DS FK (D6 FK 300) Xx [] 36 mCount.args (XN mCount.bl CH.empty) (λu h'=>TZ 20 u mCount.v&&h'.same (X3 mCount.fr (XN mCount.bl CH.empty)))=true:=by kernel_rfl
end Go.Proofs.Tryz
