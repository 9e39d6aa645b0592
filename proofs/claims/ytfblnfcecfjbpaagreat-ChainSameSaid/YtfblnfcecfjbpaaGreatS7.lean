/- A framework for walks, contracts of functions, and their proofs: part 7. -/
import Derived.Test.YtfblnfcecfjbpaaGreatS6
namespace Go.Proofs.Tryz
open Go Go.V
def mPlaces:Memo:=⟨[.agg #[.int .i64 4,.int .i64 6,.slice (some ⟨0,0,none⟩) 3 3],.int .i64 1,.int .i64 0],[⟨[.slice (some ⟨1,0,none⟩) 2 2,.bool false,.slice (some ⟨2,0,none⟩) 1 1,.bool false,.slice (some ⟨3,0,none⟩) 2 2,.bool true],⟨2,71⟩,true⟩,⟨[.int .i64 2,.int .i64 0,.bool false,.int .i64 (-1),.int .i64 0,.bool false],⟨3,87⟩,true⟩,⟨[.int .i64 (-1),.int .i64 0,.bool false],⟨3,87⟩,true⟩,⟨[.int .i64 (-1),.int .i64 0,.bool false,.int .i64 5,.int .i64 0,.bool false],⟨3,87⟩,true⟩],.tuple #[.slice (some ⟨4,0,none⟩) 3 3,.int .i64 0],[⟨[.int .i64 0,.int .i64 1,.int .i64 4],⟨1,3⟩,false⟩]⟩
theorem Cd:Bf O1 (Dt O1 300) XR [] 42 mPlaces.args (XU mPlaces.bl CH.empty) (λu h'=>R7 20 u mPlaces.v&&h'.same (Xm mPlaces.fr (XU mPlaces.bl CH.empty)))=true:=by kernel_rfl
theorem Fe:Ny Tryz.prog 42 mPlaces:=Gx mixed Ht 300 rfl Cd
end Go.Proofs.Tryz