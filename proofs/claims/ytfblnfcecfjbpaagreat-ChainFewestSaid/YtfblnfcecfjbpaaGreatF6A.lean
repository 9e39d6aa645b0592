/- A framework for walks, contracts of functions, and their proofs: part 6 (2). -/
import Derived.ProofKit
import Derived.OpenShut
import Derived.LaidMore
import Derived.Carry
import Derived.Lib.SmallJoins
import Derived.Deep.Slices
import Derived.Test.YtfblnfcecfjbpaaGreatF6
noncomputable section
set_option linter.unusedVariables false
set_option maxRecDepth 100000
namespace Go.Proofs.Tryz
open Go Go.V
theorem E3:DS FK (D6 FK 300) Xx [] 17 mMoved.args (XN mMoved.bl CH.empty) (λu h'=>TZ 20 u mMoved.v&&h'.same (X3 mMoved.fr (XN mMoved.bl CH.empty)))=true:=by kernel_rfl
end Go.Proofs.Tryz
