/- A framework for walks, contracts of functions, and their proofs: part 8. -/
import Derived.Test.YtannmfpiibodeaaGreatDoorF7
namespace Go.Proofs.Tryz
open Go Go.V
theorem Ep:Ll tab 300 UX [] c14 none (ET.of [] 52) CH.empty (Q5x false [.tmp 0] λv _=>isTrue v)=true:=by kernel_rfl
theorem EX {U:Heap}{K:Value->Heap->Prop}(hK:K (.bool true) U):VCalled Tryz.prog 14 [] U K:=Al mixed Q2k 300 Z0v (by decide) Ep hK
end Go.Proofs.Tryz