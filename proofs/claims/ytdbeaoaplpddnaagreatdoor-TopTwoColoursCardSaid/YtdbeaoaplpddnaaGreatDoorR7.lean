/- A framework for walks, contracts of functions, and their proofs: part 7. -/
import Derived.Test.YtdbeaoaplpddnaaGreatDoorR6
namespace Go.Proofs.Tryz
open Go Go.V
theorem Lk:SU tab 300 Vx [] c22 none (ET.of [] 29) CH.empty (Q1a false [.tmp 0] fun v _=>isTrue v)=true:=by kernel_rfl
theorem Lb {σ:Heap}{K:Value→Heap→Prop}(hK:K (.bool true) σ):VCalled Tryz.prog 22 [] σ K:=AY mixed Q1q 300 Q58 (by decide) Lk hK
end Go.Proofs.Tryz