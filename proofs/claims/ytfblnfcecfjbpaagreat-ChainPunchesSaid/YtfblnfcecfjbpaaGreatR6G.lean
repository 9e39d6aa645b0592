/- A framework for walks, contracts of functions, and their proofs: part 6 (8). -/
import Derived.ProofKit
import Derived.OpenShut
import Derived.LaidMore
import Derived.Carry
import Derived.Lib.SmallJoins
import Derived.Deep.Slices
import Derived.Test.YtfblnfcecfjbpaaGreatR6F
noncomputable section
set_option linter.unusedVariables false
set_option maxRecDepth 100000
namespace Go.Proofs.Tryz
open Go Go.V
theorem Cc:DF Fo (Gz Fo 300) Xm [] 42 mPlaces.args (XD mPlaces.bl CH.empty) (fun u h'=>Rb 20 u mPlaces.v&&h'.same (JV mPlaces.fr (XD mPlaces.bl CH.empty)))=true:=by kernel_rfl
end Go.Proofs.Tryz
