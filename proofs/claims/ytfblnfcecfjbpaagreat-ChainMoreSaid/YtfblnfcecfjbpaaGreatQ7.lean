/- A framework for walks, contracts of functions, and their proofs: part 7. -/
import Derived.Test.YtfblnfcecfjbpaaGreatQ6
namespace Go.Proofs.Tryz
open Go Go.V
def mPlaces:Memo:=⟨[.agg #[.int .i64 4,.int .i64 6,.slice (some ⟨0,0,none⟩) 3 3],.int .i64 1,.int .i64 0],[⟨[.slice (some ⟨1,0,none⟩) 2 2,.bool false,.slice (some ⟨2,0,none⟩) 1 1,.bool false,.slice (some ⟨3,0,none⟩) 2 2,.bool true],⟨2,71⟩,true⟩,⟨[.int .i64 2,.int .i64 0,.bool false,.int .i64 (-1),.int .i64 0,.bool false],⟨3,87⟩,true⟩,⟨[.int .i64 (-1),.int .i64 0,.bool false],⟨3,87⟩,true⟩,⟨[.int .i64 (-1),.int .i64 0,.bool false,.int .i64 5,.int .i64 0,.bool false],⟨3,87⟩,true⟩],.tuple #[.slice (some ⟨4,0,none⟩) 3 3,.int .i64 0],[⟨[.int .i64 0,.int .i64 1,.int .i64 4],⟨1,3⟩,false⟩]⟩
theorem LP:Bh IC (Dy IC 300) Xx [] 42 mPlaces.args (XP mPlaces.bl CH.empty) (λu h'=>TP 20 u mPlaces.v&&h'.same (X6 mPlaces.fr (XP mPlaces.bl CH.empty)))=true:=by kernel_rfl
theorem Es:NX Tryz.prog 42 mPlaces:=GG mixed HP 300 rfl LP
end Go.Proofs.Tryz