/- A framework for walks, contracts of functions, and their proofs: part 8. -/
import Derived.Test.YtfblnfcecfjbpaaGreatT7
namespace Go.Proofs.Tryz
open Go Go.V
def mLost:Memo:=⟨[.agg #[.int .i64 4,.int .i64 6,.slice (some ⟨0,0,none⟩) 3 3]],[⟨[.slice (some ⟨1,0,none⟩) 2 2,.bool false,.slice (some ⟨2,0,none⟩) 1 1,.bool false,.slice (some ⟨3,0,none⟩) 2 2,.bool true],⟨2,71⟩,true⟩,⟨[.int .i64 2,.int .i64 0,.bool false,.int .i64 (-1),.int .i64 0,.bool false],⟨3,87⟩,true⟩,⟨[.int .i64 4,.int .i64 0,.bool false],⟨3,87⟩,true⟩,⟨[.int .i64 (-1),.int .i64 0,.bool false,.int .i64 5,.int .i64 0,.bool false],⟨3,87⟩,true⟩],.tuple #[.slice (some ⟨4,0,none⟩) 1 1,.int .i64 0],[⟨[.int .i64 1],⟨1,3⟩,false⟩]⟩
theorem OJ:Bf Im (Dg Im 300) XG [] 43 mLost.args (W5 mLost.bl CH.empty) (λu h'=>TT 20 u mLost.v&&h'.same (Xa mLost.fr (W5 mLost.bl CH.empty)))=true:=by kernel_rfl
theorem Q0i:NM Tryz.prog 43 mLost:=D4 mixed Pn 300 rfl OJ
end Go.Proofs.Tryz