/- A framework for walks, contracts of functions, and their proofs: part 7. -/
import Derived.Test.YtannmfpiibodeaaGreatDoorF6
namespace Go.Proofs.Tryz
open Go Go.V
theorem E8:Ll tab 300 UX [] c12 none (ET.of [] 29) CH.empty (Q5x false [.tmp 0] λv _=>isTrue v)=true:=by kernel_rfl
theorem Ey {U:Heap}{K:Value->Heap->Prop}(hK:K (.bool true) U):VCalled Tryz.prog 12 [] U K:=Al mixed Q2k 300 Q9f (by decide) E8 hK
end Go.Proofs.Tryz