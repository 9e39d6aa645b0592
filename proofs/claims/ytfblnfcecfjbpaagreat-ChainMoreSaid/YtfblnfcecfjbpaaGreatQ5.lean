/- A framework for walks, contracts of functions, and their proofs: part 5. -/
import Derived.Test.YtfblnfcecfjbpaaGreatQ4
namespace Go.Proofs.Tryz
open Go Go.V
def mCourse:Memo:=⟨[.agg #[.int .i64 4,.slice (some ⟨0,0,none⟩) 5 5],.slice (some ⟨1,0,none⟩) 5 5],[⟨[.int .i64 0,.int .i64 1,.bool false,.int .i64 3,.int .i64 8,.bool false,.int .i64 1,.int .i64 2,.bool false,.int .i64 2,.int .i64 4,.bool false,.int .i64 4,.int .i64 15,.bool false],⟨3,87⟩,true⟩,⟨[.int .i64 8,.int .i64 2,.int .i64 2,.int .i64 (-1),.int .i64 1],⟨1,3⟩,true⟩],.tuple #[.int .i64 1,.slice (some ⟨2,0,none⟩) 5 5,.int .i64 2,.int .i64 0],[⟨[.int .i64 1,.int .i64 0,.int .i64 1,.int .i64 2,.int .i64 1],⟨1,3⟩,false⟩]⟩
theorem LS:Bh IC (Dy IC 300) Xx [] 26 mCourse.args (XP mCourse.bl CH.empty) (λu h'=>TP 20 u mCourse.v&&h'.same (X6 mCourse.fr (XP mCourse.bl CH.empty)))=true:=by kernel_rfl
theorem AK:NX Tryz.prog 26 mCourse:=GG mixed HP 300 rfl LS
end Go.Proofs.Tryz