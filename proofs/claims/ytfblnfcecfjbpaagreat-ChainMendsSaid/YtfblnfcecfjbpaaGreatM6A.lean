/- A framework for walks, contracts of functions, and their proofs: part 6 (2). -/
import Derived.ProofKit
import Derived.OpenShut
import Derived.LaidMore
import Derived.Carry
import Derived.Lib.SmallJoins
import Derived.Deep.Slices
import Derived.Test.YtfblnfcecfjbpaaGreatM6
noncomputable section
set_option linter.unusedVariables false
set_option maxRecDepth 100000
namespace Go.Proofs.Tryz
open Go Go.V
theorem Q0a:HP Q1b (Bi Q1b 300) Wh [] 17 mMoved.args (Wm mMoved.bl CH.empty) (λu h'=>Lx 20 u mMoved.v&&h'.same (XH mMoved.fr (Wm mMoved.bl CH.empty)))=true:=by kernel_rfl
end Go.Proofs.Tryz
