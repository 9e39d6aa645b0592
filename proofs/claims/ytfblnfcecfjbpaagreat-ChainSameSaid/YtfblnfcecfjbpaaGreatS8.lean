/- A framework for walks, contracts of functions, and their proofs: part 8. -/
import Derived.Test.YtfblnfcecfjbpaaGreatS7
namespace Go.Proofs.Tryz
open Go Go.V
def mLost:Memo:=⟨[.agg #[.int .i64 4,.int .i64 6,.slice (some ⟨0,0,none⟩) 3 3]],[⟨[.slice (some ⟨1,0,none⟩) 2 2,.bool false,.slice (some ⟨2,0,none⟩) 1 1,.bool false,.slice (some ⟨3,0,none⟩) 2 2,.bool true],⟨2,71⟩,true⟩,⟨[.int .i64 2,.int .i64 0,.bool false,.int .i64 (-1),.int .i64 0,.bool false],⟨3,87⟩,true⟩,⟨[.int .i64 4,.int .i64 0,.bool false],⟨3,87⟩,true⟩,⟨[.int .i64 (-1),.int .i64 0,.bool false,.int .i64 5,.int .i64 0,.bool false],⟨3,87⟩,true⟩],.tuple #[.slice (some ⟨4,0,none⟩) 1 1,.int .i64 0],[⟨[.int .i64 1],⟨1,3⟩,false⟩]⟩
theorem O3:Bf O1 (Dt O1 300) XR [] 43 mLost.args (XU mLost.bl CH.empty) (λu h'=>R7 20 u mLost.v&&h'.same (Xm mLost.fr (XU mLost.bl CH.empty)))=true:=by kernel_rfl
theorem Q0k:Ny Tryz.prog 43 mLost:=Gx mixed Ht 300 rfl O3
end Go.Proofs.Tryz