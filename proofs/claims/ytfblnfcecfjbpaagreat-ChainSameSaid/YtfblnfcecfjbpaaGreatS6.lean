/- A framework for walks, contracts of functions, and their proofs: part 6. -/
import Derived.Test.YtfblnfcecfjbpaaGreatS5
namespace Go.Proofs.Tryz
open Go Go.V
def mCount:Memo:=⟨[.agg #[.int .i64 4,.int .i64 6,.slice (some ⟨0,0,none⟩) 3 3]],[⟨[.slice (some ⟨1,0,none⟩) 2 2,.bool false,.slice (some ⟨2,0,none⟩) 1 1,.bool false,.slice (some ⟨3,0,none⟩) 2 2,.bool true],⟨2,71⟩,true⟩,⟨[.int .i64 2,.int .i64 0,.bool false,.int .i64 (-1),.int .i64 0,.bool false],⟨3,87⟩,true⟩,⟨[.int .i64 (-1),.int .i64 0,.bool false],⟨3,87⟩,true⟩,⟨[.int .i64 (-1),.int .i64 0,.bool false,.int .i64 5,.int .i64 0,.bool false],⟨3,87⟩,true⟩],.tuple #[.int .i64 4,.int .i64 0],[]⟩
theorem Ec:Bf O1 (Dt O1 300) XR [] 36 mCount.args (XU mCount.bl CH.empty) (λu h'=>R7 20 u mCount.v&&h'.same (Xm mCount.fr (XU mCount.bl CH.empty)))=true:=by kernel_rfl
theorem FU:Ny Tryz.prog 36 mCount:=Gx mixed Ht 300 rfl Ec
end Go.Proofs.Tryz