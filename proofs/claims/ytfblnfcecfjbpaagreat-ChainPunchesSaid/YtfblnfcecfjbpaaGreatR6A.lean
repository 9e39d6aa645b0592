/- A framework for walks, contracts of functions, and their proofs: part 6 (2). -/
import Derived.ProofKit
import Derived.OpenShut
import Derived.LaidMore
import Derived.Carry
import Derived.Lib.SmallJoins
import Derived.Deep.Slices
import Derived.Test.YtfblnfcecfjbpaaGreatR6
noncomputable section
set_option linter.unusedVariables false
set_option maxRecDepth 100000
namespace Go.Proofs.Tryz
open Go Go.V
theorem EC:DF Fo (Gz Fo 300) Xm [] 17 mMoved.args (XD mMoved.bl CH.empty) (fun u h'=>Rb 20 u mMoved.v&&h'.same (JV mMoved.fr (XD mMoved.bl CH.empty)))=true:=by kernel_rfl
end Go.Proofs.Tryz
