/- A framework for walks, contracts of functions, and their proofs: part 6 (10). -/
import Derived.ProofKit
import Derived.OpenShut
import Derived.LaidMore
import Derived.Carry
import Derived.Lib.SmallJoins
import Derived.Deep.Slices
import Derived.Test.YtfblnfcecfjbpaaGreatR6H
noncomputable section
set_option linter.unusedVariables false
set_option maxRecDepth 100000
namespace Go.Proofs.Tryz
open Go Go.V
theorem FD:DF Fo (Gz Fo 300) Xm [] 43 mLost.args (XD mLost.bl CH.empty) (fun u h'=>Rb 20 u mLost.v&&h'.same (JV mLost.fr (XD mLost.bl CH.empty)))=true:=by kernel_rfl
end Go.Proofs.Tryz
