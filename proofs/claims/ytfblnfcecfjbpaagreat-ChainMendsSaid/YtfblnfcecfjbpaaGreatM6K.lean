/- A framework for walks, contracts of functions, and their proofs: part 6 (12). -/
import Derived.ProofKit
import Derived.OpenShut
import Derived.LaidMore
import Derived.Carry
import Derived.Lib.SmallJoins
import Derived.Deep.Slices
import Derived.Test.YtfblnfcecfjbpaaGreatM6J
noncomputable section
set_option linter.unusedVariables false
set_option maxRecDepth 100000
namespace Go.Proofs.Tryz
open Go Go.V
theorem Q1s:Bi tab 300 Wh [] c15 none (ET.of [] 226) CH.empty (Z18 false [.tmp 0] λv _=>isTrue v)=true:=by kernel_rfl
end Go.Proofs.Tryz
