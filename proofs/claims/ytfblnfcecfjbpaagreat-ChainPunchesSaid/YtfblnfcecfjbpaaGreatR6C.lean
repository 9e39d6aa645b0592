/- A framework for walks, contracts of functions, and their proofs: part 6 (4). -/
import Derived.ProofKit
import Derived.OpenShut
import Derived.LaidMore
import Derived.Carry
import Derived.Lib.SmallJoins
import Derived.Deep.Slices
import Derived.Test.YtfblnfcecfjbpaaGreatR6B
noncomputable section
set_option linter.unusedVariables false
set_option maxRecDepth 100000
namespace Go.Proofs.Tryz
open Go Go.V
theorem Cu:DF Fo (Gz Fo 300) Xm [] 26 mCourse.args (XD mCourse.bl CH.empty) (fun u h'=>Rb 20 u mCourse.v&&h'.same (JV mCourse.fr (XD mCourse.bl CH.empty)))=true:=by kernel_rfl
end Go.Proofs.Tryz
