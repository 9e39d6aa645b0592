/- A framework for walks, contracts of functions, and their proofs: part 6. -/
import Derived.Test.YtfblnfcecfjbpaaGreatQ5
namespace Go.Proofs.Tryz
open Go Go.V
def mCount:Memo:=⟨[.agg #[.int .i64 4,.int .i64 6,.slice (some ⟨0,0,none⟩) 3 3]],[⟨[.slice (some ⟨1,0,none⟩) 2 2,.bool false,.slice (some ⟨2,0,none⟩) 1 1,.bool false,.slice (some ⟨3,0,none⟩) 2 2,.bool true],⟨2,71⟩,true⟩,⟨[.int .i64 2,.int .i64 0,.bool false,.int .i64 (-1),.int .i64 0,.bool false],⟨3,87⟩,true⟩,⟨[.int .i64 (-1),.int .i64 0,.bool false],⟨3,87⟩,true⟩,⟨[.int .i64 (-1),.int .i64 0,.bool false,.int .i64 5,.int .i64 0,.bool false],⟨3,87⟩,true⟩],.tuple #[.int .i64 4,.int .i64 0],[]⟩
theorem AI:Bh IC (Dy IC 300) Xx [] 36 mCount.args (XP mCount.bl CH.empty) (λu h'=>TP 20 u mCount.v&&h'.same (X6 mCount.fr (XP mCount.bl CH.empty)))=true:=by kernel_rfl
theorem Ih:NX Tryz.prog 36 mCount:=GG mixed HP 300 rfl AI
end Go.Proofs.Tryz