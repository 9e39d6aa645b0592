/- A framework for walks, contracts of functions, and their proofs: part 6. -/
import Derived.Test.YtfblnfcecfjbpaaGreatT5
namespace Go.Proofs.Tryz
open Go Go.V
def mCount:Memo:=⟨[.agg #[.int .i64 4,.int .i64 6,.slice (some ⟨0,0,none⟩) 3 3]],[⟨[.slice (some ⟨1,0,none⟩) 2 2,.bool false,.slice (some ⟨2,0,none⟩) 1 1,.bool false,.slice (some ⟨3,0,none⟩) 2 2,.bool true],⟨2,71⟩,true⟩,⟨[.int .i64 2,.int .i64 0,.bool false,.int .i64 (-1),.int .i64 0,.bool false],⟨3,87⟩,true⟩,⟨[.int .i64 (-1),.int .i64 0,.bool false],⟨3,87⟩,true⟩,⟨[.int .i64 (-1),.int .i64 0,.bool false,.int .i64 5,.int .i64 0,.bool false],⟨3,87⟩,true⟩],.tuple #[.int .i64 4,.int .i64 0],[]⟩
theorem E3:Bf Im (Dg Im 300) XG [] 36 mCount.args (W5 mCount.bl CH.empty) (λu h'=>TT 20 u mCount.v&&h'.same (Xa mCount.fr (W5 mCount.bl CH.empty)))=true:=by kernel_rfl
theorem Ig:NM Tryz.prog 36 mCount:=D4 mixed Pn 300 rfl E3
end Go.Proofs.Tryz