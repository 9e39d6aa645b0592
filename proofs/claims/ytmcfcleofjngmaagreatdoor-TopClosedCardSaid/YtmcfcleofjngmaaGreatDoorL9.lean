
import Derived.Test.YtmcfcleofjngmaaGreatDoorL8
namespace Go.Proofs.Tryz
open Go Go.V
theorem Q46:C4 tab 300 US [] c19 none (ET.of [] 70) CH.empty (Q82 false [.tmp 0] λv _=>isTrue v)=true:=by kernel_rfl
theorem Q31 {U:Heap}{K:Value->Heap->Prop}(hK:K (.bool true) U):VCalled Tryz.prog 19 [] U K:=EM mixed Q79 300 Z4h (by decide) Q46 hK
end Go.Proofs.Tryz