/- A framework for walks, contracts of functions, and their proofs: part 6 (3). -/
import Derived.ProofKit
import Derived.OpenShut
import Derived.LaidMore
import Derived.Carry
import Derived.Lib.SmallJoins
import Derived.Deep.Slices
import Derived.Test.YtfblnfcecfjbpaaGreatF6A
noncomputable section
set_option linter.unusedVariables false
set_option maxRecDepth 100000
namespace Go.Proofs.Tryz
open Go Go.V
theorem FB:NM Tryz.prog 17 mMoved:=D7 mixed Pt 300 rfl E3
def mCourse:Memo:=⟨[.agg #[.int .i64 4,.slice (some ⟨0,0,none⟩) 5 5],.slice (some ⟨1,0,none⟩) 5 5],[⟨[.int .i64 0,.int .i64 1,.bool false,.int .i64 3,.int .i64 8,.bool false,.int .i64 1,.int .i64 2,.bool false,.int .i64 2,.int .i64 4,.bool false,.int .i64 4,.int .i64 15,.bool false],⟨3,87⟩,true⟩,⟨[.int .i64 8,.int .i64 2,.int .i64 2,.int .i64 (-1),.int .i64 1],⟨1,3⟩,true⟩],.tuple #[.int .i64 1,.slice (some ⟨2,0,none⟩) 5 5,.int .i64 2,.int .i64 0],[⟨[.int .i64 1,.int .i64 0,.int .i64 1,.int .i64 2,.int .i64 1],⟨1,3⟩,false⟩]⟩
end Go.Proofs.Tryz
