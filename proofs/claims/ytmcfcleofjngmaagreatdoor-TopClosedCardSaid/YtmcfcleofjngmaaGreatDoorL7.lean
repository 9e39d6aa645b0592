
import Derived.Test.YtmcfcleofjngmaaGreatDoorL6
namespace Go.Proofs.Tryz
open Go Go.V
theorem Q45:C4 tab 300 US [] c17 none (ET.of [] 52) CH.empty (Q82 false [.tmp 0] λv _=>isTrue v)=true:=by kernel_rfl
theorem Q2s {U:Heap}{K:Value->Heap->Prop}(hK:K (.bool true) U):VCalled Tryz.prog 17 [] U K:=EM mixed Q79 300 Z58 (by decide) Q45 hK
end Go.Proofs.Tryz