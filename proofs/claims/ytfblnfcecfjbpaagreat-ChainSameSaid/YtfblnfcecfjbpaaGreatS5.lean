/- A framework for walks, contracts of functions, and their proofs: part 5. -/
import Derived.Test.YtfblnfcecfjbpaaGreatS4
namespace Go.Proofs.Tryz
open Go Go.V
def mCourse:Memo:=⟨[.agg #[.int .i64 4,.slice (some ⟨0,0,none⟩) 5 5],.slice (some ⟨1,0,none⟩) 5 5],[⟨[.int .i64 0,.int .i64 1,.bool false,.int .i64 3,.int .i64 8,.bool false,.int .i64 1,.int .i64 2,.bool false,.int .i64 2,.int .i64 4,.bool false,.int .i64 4,.int .i64 15,.bool false],⟨3,87⟩,true⟩,⟨[.int .i64 8,.int .i64 2,.int .i64 2,.int .i64 (-1),.int .i64 1],⟨1,3⟩,true⟩],.tuple #[.int .i64 1,.slice (some ⟨2,0,none⟩) 5 5,.int .i64 2,.int .i64 0],[⟨[.int .i64 1,.int .i64 0,.int .i64 1,.int .i64 2,.int .i64 1],⟨1,3⟩,false⟩]⟩
theorem CJ:Bf O1 (Dt O1 300) XR [] 26 mCourse.args (XU mCourse.bl CH.empty) (λu h'=>R7 20 u mCourse.v&&h'.same (Xm mCourse.fr (XU mCourse.bl CH.empty)))=true:=by kernel_rfl
theorem ED:Ny Tryz.prog 26 mCourse:=Gx mixed Ht 300 rfl CJ
end Go.Proofs.Tryz