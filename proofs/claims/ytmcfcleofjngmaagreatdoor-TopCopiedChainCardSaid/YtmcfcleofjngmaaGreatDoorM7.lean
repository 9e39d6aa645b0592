
import Derived.Test.YtmcfcleofjngmaaGreatDoorM6
namespace Go.Proofs.Tryz
open Go Go.V
theorem Q44:IH tab 300 D9 [] c19 none (ET.of [] 70) CH.empty (Z49 false [.tmp 0] λv _=>isTrue v)=true:=by kernel_rfl
theorem Q40 {U:Heap}{K:Value->Heap->Prop}(hK:K (.bool true) U):VCalled Tryz.prog 19 [] U K:=Z08 mixed Z87 300 Z8c (by decide) Q44 hK
end Go.Proofs.Tryz