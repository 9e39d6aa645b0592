/- A framework for walks, contracts of functions, and their proofs: part 6 (4). -/
import Derived.ProofKit
import Derived.OpenShut
import Derived.LaidMore
import Derived.Carry
import Derived.Lib.SmallJoins
import Derived.Deep.Slices
import Derived.Test.YtfblnfcecfjbpaaGreatF6B
noncomputable section
set_option linter.unusedVariables false
set_option maxRecDepth 100000
namespace Go.Proofs.Tryz
open Go Go.V
theorem Cc:DS FK (D6 FK 300) Xx [] 26 mCourse.args (XN mCourse.bl CH.empty) (λu h'=>TZ 20 u mCourse.v&&h'.same (X3 mCourse.fr (XN mCourse.bl CH.empty)))=true:=by kernel_rfl
end Go.Proofs.Tryz
