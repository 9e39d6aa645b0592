/- A framework for walks, contracts of functions, and their proofs: part 7 (2). -/
import Derived.Test.YtfblnfcecfjbpaaGreatF7
noncomputable section
set_option linter.unusedVariables false
set_option maxRecDepth 100000
namespace Go.Proofs.Tryz
open Go Go.V
theorem Ou:D6 tab 300 Xx [] c15 none (ET.of [] 226) CH.empty (Q63 false [.tmp 0] λv _=>isTrue v)=true:=by kernel_rfl
end Go.Proofs.Tryz
