/- A framework for walks, contracts of functions, and their proofs: part 4. -/
import Derived.Test.YtfblnfcecfjbpaaGreatS3
namespace Go.Proofs.Tryz
open Go Go.V
def mMoved:Memo:=⟨[.agg #[.int .i64 4,.slice (some ⟨0,0,none⟩) 5 5]],[⟨[.int .i64 0,.int .i64 1,.bool false,.int .i64 3,.int .i64 8,.bool false,.int .i64 1,.int .i64 2,.bool false,.int .i64 2,.int .i64 4,.bool false,.int .i64 4,.int .i64 15,.bool false],⟨3,87⟩,true⟩],.tuple #[.slice (some ⟨1,0,none⟩) 1 1,.int .i64 0],[⟨[.int .i64 1],⟨1,3⟩,false⟩]⟩
theorem Ee:Bf O1 (Dt O1 300) XR [] 17 mMoved.args (XU mMoved.bl CH.empty) (λu h'=>R7 20 u mMoved.v&&h'.same (Xm mMoved.fr (XU mMoved.bl CH.empty)))=true:=by kernel_rfl
theorem I8:Ny Tryz.prog 17 mMoved:=Gx mixed Ht 300 rfl Ee
end Go.Proofs.Tryz