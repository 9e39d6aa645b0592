/- A framework for walks, contracts of functions, and their proofs: part 6 (8). -/
import Derived.ProofKit
import Derived.OpenShut
import Derived.LaidMore
import Derived.Carry
import Derived.Lib.SmallJoins
import Derived.Deep.Slices
import Derived.Test.YtfblnfcecfjbpaaGreatM6F
noncomputable section
set_option linter.unusedVariables false
set_option maxRecDepth 100000
namespace Go.Proofs.Tryz
open Go Go.V
theorem FX:HP Q1b (Bi Q1b 300) Wh [] 42 mPlaces.args (Wm mPlaces.bl CH.empty) (λu h'=>Lx 20 u mPlaces.v&&h'.same (XH mPlaces.fr (Wm mPlaces.bl CH.empty)))=true:=by kernel_rfl
end Go.Proofs.Tryz
