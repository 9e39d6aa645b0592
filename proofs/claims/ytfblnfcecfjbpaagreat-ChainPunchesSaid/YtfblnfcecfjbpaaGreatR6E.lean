/- A framework for walks, contracts of functions, and their proofs: part 6 (6). -/
import Derived.ProofKit
import Derived.OpenShut
import Derived.LaidMore
import Derived.Carry
import Derived.Lib.SmallJoins
import Derived.Deep.Slices
import Derived.Test.YtfblnfcecfjbpaaGreatR6D
noncomputable section
set_option linter.unusedVariables false
set_option maxRecDepth 100000
namespace Go.Proofs.Tryz
open Go Go.V
theorem Ex:DF Fo (Gz Fo 300) Xm [] 36 mCount.args (XD mCount.bl CH.empty) (fun u h'=>Rb 20 u mCount.v&&h'.same (JV mCount.fr (XD mCount.bl CH.empty)))=true:=by kernel_rfl
end Go.Proofs.Tryz
