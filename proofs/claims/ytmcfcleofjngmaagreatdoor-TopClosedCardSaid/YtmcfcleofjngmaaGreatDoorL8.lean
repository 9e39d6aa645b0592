
import Derived.Test.YtmcfcleofjngmaaGreatDoorL7
namespace Go.Proofs.Tryz
open Go Go.V
theorem Ia:C4 tab 300 US [] c18 none (ET.of [] 54) CH.empty (Q82 false [.tmp 0] λv _=>isTrue v)=true:=by kernel_rfl
theorem O2 {U:Heap}{K:Value->Heap->Prop}(hK:K (.bool true) U):VCalled Tryz.prog 18 [] U K:=EM mixed Q79 300 Z6s (by decide) Ia hK
end Go.Proofs.Tryz