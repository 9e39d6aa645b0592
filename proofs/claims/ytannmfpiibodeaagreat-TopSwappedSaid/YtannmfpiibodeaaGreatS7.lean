/- A framework for walks, contracts of functions, and their proofs: part 7. -/
import Derived.Test.YtannmfpiibodeaaGreatS6
namespace Go.Proofs.Tryz
open Go Go.V
theorem Q1o:Q09 tab 300 Dk [] c16 none (ET.of [] 52) CH.empty (Z3d false [.tmp 0] λv _=>isTrue v)=true:=by kernel_rfl
theorem Q16 {U:Heap}{K:Value->Heap->Prop}(hK:K (.bool true) U):VCalled Tryz.prog 16 [] U K:=Q59 mixed Z3v 300 Z9z (by decide) Q1o hK
end Go.Proofs.Tryz