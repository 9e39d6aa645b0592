/- A framework for walks, contracts of functions, and their proofs: part 7. -/
import Derived.Test.YtfblnfcecfjbpaaGreatT6
namespace Go.Proofs.Tryz
open Go Go.V
def mPlaces:Memo:=⟨[.agg #[.int .i64 4,.int .i64 6,.slice (some ⟨0,0,none⟩) 3 3],.int .i64 1,.int .i64 0],[⟨[.slice (some ⟨1,0,none⟩) 2 2,.bool false,.slice (some ⟨2,0,none⟩) 1 1,.bool false,.slice (some ⟨3,0,none⟩) 2 2,.bool true],⟨2,71⟩,true⟩,⟨[.int .i64 2,.int .i64 0,.bool false,.int .i64 (-1),.int .i64 0,.bool false],⟨3,87⟩,true⟩,⟨[.int .i64 (-1),.int .i64 0,.bool false],⟨3,87⟩,true⟩,⟨[.int .i64 (-1),.int .i64 0,.bool false,.int .i64 5,.int .i64 0,.bool false],⟨3,87⟩,true⟩],.tuple #[.slice (some ⟨4,0,none⟩) 3 3,.int .i64 0],[⟨[.int .i64 0,.int .i64 1,.int .i64 4],⟨1,3⟩,false⟩]⟩
theorem CJ:Bf Im (Dg Im 300) XG [] 42 mPlaces.args (W5 mPlaces.bl CH.empty) (λu h'=>TT 20 u mPlaces.v&&h'.same (Xa mPlaces.fr (W5 mPlaces.bl CH.empty)))=true:=by kernel_rfl
theorem F4:NM Tryz.prog 42 mPlaces:=D4 mixed Pn 300 rfl CJ
end Go.Proofs.Tryz