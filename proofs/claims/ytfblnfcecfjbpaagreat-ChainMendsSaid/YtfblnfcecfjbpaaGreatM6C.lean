/- A framework for walks, contracts of functions, and their proofs: part 6 (4). -/
import Derived.ProofKit
import Derived.OpenShut
import Derived.LaidMore
import Derived.Carry
import Derived.Lib.SmallJoins
import Derived.Deep.Slices
import Derived.Test.YtfblnfcecfjbpaaGreatM6B
noncomputable section
set_option linter.unusedVariables false
set_option maxRecDepth 100000
namespace Go.Proofs.Tryz
open Go Go.V
theorem FC:HP Q1b (Bi Q1b 300) Wh [] 26 mCourse.args (Wm mCourse.bl CH.empty) (λu h'=>Lx 20 u mCourse.v&&h'.same (XH mCourse.fr (Wm mCourse.bl CH.empty)))=true:=by kernel_rfl
end Go.Proofs.Tryz
