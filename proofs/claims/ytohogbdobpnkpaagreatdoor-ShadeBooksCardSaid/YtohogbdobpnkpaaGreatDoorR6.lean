/- A framework for walks, contracts of functions, and their proofs: part 6. -/
import Derived.ProofKit
import Derived.OpenShut
import Derived.LaidMore
import Derived.Carry
import Derived.Lib.SmallJoins
import Derived.Deep.Slices
import Derived.Test.YtohogbdobpnkpaaGreatDoorR5
set_option linter.unusedVariables false
namespace Go.Proofs.Tryz
open Go Go.V Go.Proofs
def al_shade_within_1:AL (Int×Int×Int):=(.cons (.k (.i .i64)) (.cons (.ptr (.one (.k (.i .i64)))) (.one (.ptr (.one (.k (.i .i64)))))))
def pre_shade_within_1 (d:Int×Int×Int):Prop:=True
def res_shade_within_1 (d:Int×Int×Int):SV:=.val .bo (decide (d.1<d.2.1)||decide (d.2.2<d.1))
def obs_shade_within_1 (d:Int×Int×Int):List OB:=[]
def s_shade_within_1:CSp:=mkSp al_shade_within_1 pre_shade_within_1 res_shade_within_1 obs_shade_within_1
def vc_shade_within_1 (n:Int) (a:Int) (b:Int):Prop :=
 (((decide (n<a))||(decide (n > b)))=(decide (n<a)||decide (b<n))∧(True))
def cx_shade_within_1:Cx:=⟨[],[],13,[],0,[],[],[],[],false,[],[],[],[]⟩
def lp_shade_within_1 (n:Int) (a:Int) (b:Int):List (Nat×LoopAnn):=[]
set_option maxRecDepth 100000 in
theorem vq_shade_within_1 (d:Int×Int×Int):gwp (cx_shade_within_1) (lp_shade_within_1 d.1 d.2.1 d.2.2) c88 0 (gend [.tmp 4] (res_shade_within_1 d) (obs_shade_within_1 d)) (gstart 13 (AL.can al_shade_within_1 d))=vc_shade_within_1 d.1 d.2.1 d.2.2:=by kernel_rfl
abbrev Ok_shade_within_1:Prop:=OkC Tryz.prog 88 s_shade_within_1
theorem mk_shade_within_1 (h:∀ (n:Int) (a:Int) (b:Int),(True)→vc_shade_within_1 n a b):OkC Tryz.prog 88 s_shade_within_1 :=
 okC_vc fun88 mixed (C:=cx_shade_within_1) (V:=fun (d:Int×Int×Int)=>vc_shade_within_1 d.1 d.2.1 d.2.2) ⟨.nil,XsOk.nil,ItsOk.nil,YlOk.nil,IysOk.nil,XfOk.nil⟩ (vq_shade_within_1) fun d hp=>h d.1 d.2.1 d.2.2 hp
theorem ok_shade_within_1:Ok_shade_within_1:=mk_shade_within_1 fun n a b _=>by
 exact⟨rfl,trivial⟩
def al_slices_IndexFunc_int_int:AL (List Int×((Int→Prop)×(Int→Bool))):=(.cons (.k (.list (.i .i64))) (.one (.fn [(.i .i64)] .bo)))
def pre_slices_IndexFunc_int_int (d:List Int×((Int→Prop)×(Int→Bool))):Prop:=d.1.length≤1000000∧∀ x∈d.1,d.2.1 x
def res_slices_IndexFunc_int_int (d:List Int×((Int→Prop)×(Int→Bool))):SV:=.val (.i .i64) (idxF d.1 d.2.2)
def obs_slices_IndexFunc_int_int (d:List Int×((Int→Prop)×(Int→Bool))):List OB:=[]
def s_slices_IndexFunc_int_int:CSp:=mkSp al_slices_IndexFunc_int_int pre_slices_IndexFunc_int_int res_slices_IndexFunc_int_int obs_slices_IndexFunc_int_int
def vc_slices_IndexFunc_int_int (l:List Int) (p:(Int→Prop)×(Int→Bool)):Prop :=
 ∃ (e2:Unit) (d20:Int),((l=l∧(SV.pf [(.i .i64)] .bo p.1 p.2=SV.pf [(.i .i64)] .bo p.1 p.2)∧(lI l)=(lI l)∧(0:Int)=d20∧True)∧(True)) ∧
 LoopP (fun (d2:Int) (q2:(Int)→Prop) =>
  ((decide (d2<(lI l)))=true →
   (0≤d2)∧(d2<(List.length l))∧(p.1 (gD l d2 0))∧((p.2 (gD l d2 0))=true →
    (d2=(idxF l p.2)∧(True))) ∧
   ((p.2 (gD l d2 0))=false →
    (I64 (d2+(1:Int)))∧(∃ d3:Int,((l=l∧(SV.pf [(.i .i64)] .bo p.1 p.2=SV.pf [(.i .i64)] .bo p.1 p.2)∧(lI l)=(lI l)∧(d2+(1:Int))=d3∧True)∧(True))∧q2 d3))) ∧
  ((decide (d2<(lI l)))=false →
   ((-1:Int)=(idxF l p.2)∧(True)))) d20
def cx_slices_IndexFunc_int_int:Cx:=⟨[],[],19,[],0,[],[],[],[],false,[],[],[],[]⟩
def lp_slices_IndexFunc_int_int (l:List Int) (p:(Int→Prop)×(Int→Bool)):List (Nat×LoopAnn):=[(0,⟨Unit,Int,[0,1,7,8],fun e x=>[.val (.list (.i .i64)) l,.pf [(.i .i64)] .bo p.1 p.2,.val (.i .i64) (((List.length l):Nat):Int),.val (.i .i64) x],fun e x=>[]⟩)]
set_option maxRecDepth 100000 in
theorem vq_slices_IndexFunc_int_int (d:List Int×((Int→Prop)×(Int→Bool))):gwp (cx_slices_IndexFunc_int_int) (lp_slices_IndexFunc_int_int d.1 d.2) c103 0 (gend [.tmp 4] (res_slices_IndexFunc_int_int d) (obs_slices_IndexFunc_int_int d)) (gstart 19 (AL.can al_slices_IndexFunc_int_int d))=vc_slices_IndexFunc_int_int d.1 d.2:=by kernel_rfl
abbrev Ok_slices_IndexFunc_int_int:Prop:=OkC Tryz.prog 103 s_slices_IndexFunc_int_int
theorem mk_slices_IndexFunc_int_int (h:∀ (l:List Int) (p:(Int→Prop)×(Int→Bool)),(l.length≤1000000∧∀ x∈l,p.1 x)→vc_slices_IndexFunc_int_int l p):OkC Tryz.prog 103 s_slices_IndexFunc_int_int :=
 okC_vc fun103 mixed (C:=cx_slices_IndexFunc_int_int) (V:=fun (d:List Int×((Int→Prop)×(Int→Bool)))=>vc_slices_IndexFunc_int_int d.1 d.2) ⟨.nil,XsOk.nil,ItsOk.nil,YlOk.nil,IysOk.nil,XfOk.nil⟩ (vq_slices_IndexFunc_int_int) fun d hp=>h d.1 d.2 hp
theorem idxF_some {l:List Int}{p:Int→Bool}{k:Nat}(hk:k<l.length) (h:p l[k]=true) (hJ:(l.take k).any p=false):idxF l p=k:=by
 have:l.findIdx? p=some k:=by
  rw[List.findIdx?_eq_some_iff_getElem];refine⟨hk,h,fun j hj=>?_⟩;have hn:=List.any_eq_false.1 hJ l[j] (List.mem_take_iff_getElem.2 ⟨j,by omega,rfl⟩)
  simpa using hn
 simp[idxF,this]
theorem idxF_none {l:List Int}{p:Int→Bool}(hJ:l.any p=false):idxF l p=-1:=by
 have:l.findIdx? p=none:=by
  rw[List.findIdx?_eq_none_iff];intro x hx;have:=List.any_eq_false.1 hJ x hx;simpa using this
 simp[idxF,this]
theorem idxF_nonneg (l:List Int) (p:Int→Bool):decide (idxF l p≥0)=l.any p:=by
 unfold idxF;cases h:l.findIdx? p with
 |none =>
  have:=List.findIdx?_eq_none_iff.1 h;have:l.any p=false:=by rw[List.any_eq_false];intro x hx;simp[this x hx]
  rw[this];rfl
 |some i =>
  obtain⟨h1,h2,_⟩:=List.findIdx?_eq_some_iff_getElem.1 h;rw[List.any_eq_true.2 ⟨l[i],List.getElem_mem h1,h2⟩];simp
theorem ok_slices_IndexFunc_int_int:Ok_slices_IndexFunc_int_int:=mk_slices_IndexFunc_int_int fun l p hp=>by
 unfold vc_slices_IndexFunc_int_int;(try delta lI gD sT I64);simp only[true_and,and_true,exists_eq_left',exists_const,decide_eq_true_eq,decide_eq_false_iff_not]
 refine LoopP.count l.length (fun k=>(l.take k).any p.2=false) (by simp) fun k hk1 hJ q hq=>?_
 simp only[Int.toNat_natCast,Int.ofNat_lt,InK_i64];refine⟨fun hlt=>?_,fun hge=>?_⟩
 ·rw[getD_nat hlt];refine⟨by omega,hlt,hp.2 _ (List.getElem_mem hlt),fun hx=>?_,fun hx=>⟨by omega,hq hlt ?_⟩⟩
  ·rw[idxF_some hlt hx hJ]
  ·rw[take_succ_eq hlt,List.any_append,hJ];simp[hx]
 ·rw[List.take_of_length_le (by omega)] at hJ
  rw[idxF_none hJ]
def al_slices_ContainsFunc_int_int:AL (List Int×((Int→Prop)×(Int→Bool))):=(.cons (.k (.list (.i .i64))) (.one (.fn [(.i .i64)] .bo)))
def pre_slices_ContainsFunc_int_int (d:List Int×((Int→Prop)×(Int→Bool))):Prop:=d.1.length≤1000000∧∀ x∈d.1,d.2.1 x
def res_slices_ContainsFunc_int_int (d:List Int×((Int→Prop)×(Int→Bool))):SV:=.val .bo (d.1.any d.2.2)
def obs_slices_ContainsFunc_int_int (d:List Int×((Int→Prop)×(Int→Bool))):List OB:=[]
def s_slices_ContainsFunc_int_int:CSp:=mkSp al_slices_ContainsFunc_int_int pre_slices_ContainsFunc_int_int res_slices_ContainsFunc_int_int obs_slices_ContainsFunc_int_int
def vc_slices_ContainsFunc_int_int (l:List Int) (p:(Int→Prop)×(Int→Bool)):Prop :=
 (l.length≤1000000∧∀ x∈l,(fun (x1:Int)=>p.1 x1) x)∧((decide ((idxF l (fun (x1:Int)=>(p.2 x1)))≥(0:Int)))=(l.any p.2)∧(True))
def cx_slices_ContainsFunc_int_int:Cx:=⟨[],[(103,s_slices_IndexFunc_int_int)],9,[],0,[],[],[],[],false,[],[],[],[]⟩
def lp_slices_ContainsFunc_int_int (l:List Int) (p:(Int→Prop)×(Int→Bool)):List (Nat×LoopAnn):=[]
set_option maxRecDepth 100000 in
theorem vq_slices_ContainsFunc_int_int (d:List Int×((Int→Prop)×(Int→Bool))):gwp (cx_slices_ContainsFunc_int_int) (lp_slices_ContainsFunc_int_int d.1 d.2) c87 0 (gend [.tmp 4] (res_slices_ContainsFunc_int_int d) (obs_slices_ContainsFunc_int_int d)) (gstart 9 (AL.can al_slices_ContainsFunc_int_int d))=vc_slices_ContainsFunc_int_int d.1 d.2:=by kernel_rfl
abbrev Ok_slices_ContainsFunc_int_int:Prop:=OkC Tryz.prog 87 s_slices_ContainsFunc_int_int
theorem mk_slices_ContainsFunc_int_int (h:∀ (l:List Int) (p:(Int→Prop)×(Int→Bool)),(l.length≤1000000∧∀ x∈l,p.1 x)→vc_slices_ContainsFunc_int_int l p):OkC Tryz.prog 87 s_slices_ContainsFunc_int_int :=
 okC_vc fun87 mixed (C:=cx_slices_ContainsFunc_int_int) (V:=fun (d:List Int×((Int→Prop)×(Int→Bool)))=>vc_slices_ContainsFunc_int_int d.1 d.2) ⟨(.cons ok_slices_IndexFunc_int_int .nil),XsOk.nil,ItsOk.nil,YlOk.nil,IysOk.nil,XfOk.nil⟩ (vq_slices_ContainsFunc_int_int) fun d hp=>h d.1 d.2 hp
theorem ok_slices_ContainsFunc_int_int:Ok_slices_ContainsFunc_int_int:=mk_slices_ContainsFunc_int_int fun l p hp=>by
 exact⟨hp,idxF_nonneg l p.2,trivial⟩
def al_shade_within:AL (Int×Int×List Int):=(.cons (.k (.i .i64)) (.cons (.k (.i .i64)) (.one (.k (.list (.i .i64))))))
def pre_shade_within (d:Int×Int×List Int):Prop:=d.2.2.length≤1000000
def res_shade_within (d:Int×Int×List Int):SV:=.val .bo (!(d.2.2.any fun n=>decide (n<d.1)||decide (d.2.1<n)))
def obs_shade_within (d:Int×Int×List Int):List OB:=[]
def s_shade_within:CSp:=mkSp al_shade_within pre_shade_within res_shade_within obs_shade_within
def vc_shade_within (a:Int) (b:Int) (l:List Int):Prop :=
 (l.length≤1000000∧∀ x∈l,(fun (x1:Int)=>True) x)∧((!(l.any (fun (x1:Int)=>(decide (x1<a)||decide (b<x1)))))=(!(l.any fun n=>decide (n<a)||decide (b<n)))∧(True))
def cx_shade_within:Cx:=⟨[],[(87,s_slices_ContainsFunc_int_int),(88,s_shade_within_1)],11,[],0,[],[],[],[],false,[],[],[],[]⟩
def lp_shade_within (a:Int) (b:Int) (l:List Int):List (Nat×LoopAnn):=[]
set_option maxRecDepth 100000 in
theorem vq_shade_within (d:Int×Int×List Int):gwp (cx_shade_within) (lp_shade_within d.1 d.2.1 d.2.2) c61 0 (gend [.tmp 6] (res_shade_within d) (obs_shade_within d)) (gstart 11 (AL.can al_shade_within d))=vc_shade_within d.1 d.2.1 d.2.2:=by kernel_rfl
abbrev Ok_shade_within:Prop:=OkC Tryz.prog 61 s_shade_within
theorem mk_shade_within (h:∀ (a:Int) (b:Int) (l:List Int),(l.length≤1000000)→vc_shade_within a b l):OkC Tryz.prog 61 s_shade_within :=
 okC_vc fun61 mixed (C:=cx_shade_within) (V:=fun (d:Int×Int×List Int)=>vc_shade_within d.1 d.2.1 d.2.2) ⟨(.cons ok_slices_ContainsFunc_int_int (.cons ok_shade_within_1 .nil)),XsOk.nil,ItsOk.nil,YlOk.nil,IysOk.nil,XfOk.nil⟩ (vq_shade_within) fun d hp=>h d.1 d.2.1 d.2.2 hp
theorem ok_shade_within:Ok_shade_within:=mk_shade_within fun a b l h=>by
 exact⟨⟨h,fun _ _=>trivial⟩,rfl,trivial⟩
def al_shade_newBook_1:AL (Int×Int):=(.one (.agg (.cons (.k (.i .i64)) (.one (.k (.i .i64))))))
def pre_shade_newBook_1 (d:Int×Int):Prop:=True
def res_shade_newBook_1 (d:Int×Int):SV:=.val .bo (!inI d.1 1 3||!inI d.2 0 12000000)
def obs_shade_newBook_1 (d:Int×Int):List OB:=[]
def s_shade_newBook_1:CSp:=mkSp al_shade_newBook_1 pre_shade_newBook_1 res_shade_newBook_1 obs_shade_newBook_1
def vc_shade_newBook_1 (k:Int) (x:Int):Prop :=
 ([k].length≤1000000)∧((!(!([k].any fun n=>decide (n<(1:Int))||decide ((3:Int)<n))))=false→True)∧((!(!([k].any fun n=>decide (n<(1:Int))||decide ((3:Int)<n))))=false→[x].length≤1000000)∧(((!(!([k].any fun n=>decide (n<(1:Int))||decide ((3:Int)<n))))||(!(!([x].any fun n=>decide (n<(0:Int))||decide ((12000000:Int)<n)))))=(!inI k 1 3||!inI x 0 12000000)∧(True))
def cx_shade_newBook_1:Cx:=⟨[(3,(.i .i64))],[(61,s_shade_within)],15,[],0,[],[],[],[],false,[],[],[],[]⟩
def lp_shade_newBook_1 (k:Int) (x:Int):List (Nat×LoopAnn):=[]
set_option maxRecDepth 100000 in
theorem vq_shade_newBook_1 (d:Int×Int):gwp (cx_shade_newBook_1) (lp_shade_newBook_1 d.1 d.2) c84 0 (gend [.tmp 2] (res_shade_newBook_1 d) (obs_shade_newBook_1 d)) (gstart 15 (AL.can al_shade_newBook_1 d))=vc_shade_newBook_1 d.1 d.2:=by kernel_rfl
abbrev Ok_shade_newBook_1:Prop:=OkC Tryz.prog 84 s_shade_newBook_1
theorem mk_shade_newBook_1 (h:∀ (k:Int) (x:Int),(True)→vc_shade_newBook_1 k x):OkC Tryz.prog 84 s_shade_newBook_1 :=
 okC_vc fun84 mixed (C:=cx_shade_newBook_1) (V:=fun (d:Int×Int)=>vc_shade_newBook_1 d.1 d.2) ⟨(.cons ok_shade_within .nil),XsOk.nil,ItsOk.nil,YlOk.nil,IysOk.nil,XfOk.nil⟩ (vq_shade_newBook_1) fun d hp=>h d.1 d.2 hp
theorem ok_shade_newBook_1:Ok_shade_newBook_1:=mk_shade_newBook_1 fun k x _=>by
 unfold vc_shade_newBook_1;(try delta lI gD sT I64)
 simp only[List.any_cons,List.any_nil,Bool.or_false,Bool.not_not,←nI,List.length_cons,List.length_nil];refine⟨by omega,fun _=>trivial,fun _=>by omega,?_⟩
 and_intros<;>first|rfl|trivial
def al_slices_IndexFunc_api_ShadeEntry_api_ShadeEntry:AL ((List (Int×Int))×((Int×Int→Prop)×(Int×Int→Bool))):=(.cons (.k (.list (.pair (.i .i64) (.i .i64)))) (.one (.fn [(.pair (.i .i64) (.i .i64))] .bo)))
def pre_slices_IndexFunc_api_ShadeEntry_api_ShadeEntry (d:(List (Int×Int))×((Int×Int→Prop)×(Int×Int→Bool))):Prop:=d.1.length≤1000000∧∀ x∈d.1,d.2.1 x
def res_slices_IndexFunc_api_ShadeEntry_api_ShadeEntry (d:(List (Int×Int))×((Int×Int→Prop)×(Int×Int→Bool))):SV:=.val (.i .i64) (idxG d.1 d.2.2)
def obs_slices_IndexFunc_api_ShadeEntry_api_ShadeEntry (d:(List (Int×Int))×((Int×Int→Prop)×(Int×Int→Bool))):List OB:=[]
def s_slices_IndexFunc_api_ShadeEntry_api_ShadeEntry:CSp:=mkSp al_slices_IndexFunc_api_ShadeEntry_api_ShadeEntry pre_slices_IndexFunc_api_ShadeEntry_api_ShadeEntry res_slices_IndexFunc_api_ShadeEntry_api_ShadeEntry obs_slices_IndexFunc_api_ShadeEntry_api_ShadeEntry
def vc_slices_IndexFunc_api_ShadeEntry_api_ShadeEntry (l:List (Int×Int)) (p:(Int×Int→Prop)×(Int×Int→Bool)):Prop :=
 ∃ (e2:Unit) (d20:Int),((l=l∧(SV.pf [(.pair (.i .i64) (.i .i64))] .bo p.1 p.2=SV.pf [(.pair (.i .i64) (.i .i64))] .bo p.1 p.2)∧(lI l)=(lI l)∧(0:Int)=d20∧True)∧(True)) ∧
 LoopP (fun (d2:Int) (q2:(Int)→Prop) =>
  ((decide (d2<(lI l)))=true →
   (0≤d2)∧(d2<(List.length l))∧(p.1 ((gD l d2 (0,0)).1,(gD l d2 (0,0)).2))∧((p.2 ((gD l d2 (0,0)).1,(gD l d2 (0,0)).2))=true →
    (d2=(idxG l p.2)∧(True))) ∧
   ((p.2 ((gD l d2 (0,0)).1,(gD l d2 (0,0)).2))=false →
    (I64 (d2+(1:Int)))∧(∃ d3:Int,((l=l∧(SV.pf [(.pair (.i .i64) (.i .i64))] .bo p.1 p.2=SV.pf [(.pair (.i .i64) (.i .i64))] .bo p.1 p.2)∧(lI l)=(lI l)∧(d2+(1:Int))=d3∧True)∧(True))∧q2 d3))) ∧
  ((decide (d2<(lI l)))=false →
   ((-1:Int)=(idxG l p.2)∧(True)))) d20
def cx_slices_IndexFunc_api_ShadeEntry_api_ShadeEntry:Cx:=⟨[],[],19,[],0,[],[],[],[],false,[],[],[],[]⟩
def lp_slices_IndexFunc_api_ShadeEntry_api_ShadeEntry (l:List (Int×Int)) (p:(Int×Int→Prop)×(Int×Int→Bool)):List (Nat×LoopAnn):=[(0,⟨Unit,Int,[0,1,7,8],fun e x=>[.val (.list (.pair (.i .i64) (.i .i64))) l,.pf [(.pair (.i .i64) (.i .i64))] .bo p.1 p.2,.val (.i .i64) (((List.length l):Nat):Int),.val (.i .i64) x],fun e x=>[]⟩)]
set_option maxRecDepth 100000 in
theorem vq_slices_IndexFunc_api_ShadeEntry_api_ShadeEntry (d:(List (Int×Int))×((Int×Int→Prop)×(Int×Int→Bool))):gwp (cx_slices_IndexFunc_api_ShadeEntry_api_ShadeEntry) (lp_slices_IndexFunc_api_ShadeEntry_api_ShadeEntry d.1 d.2) c102 0 (gend [.tmp 4] (res_slices_IndexFunc_api_ShadeEntry_api_ShadeEntry d) (obs_slices_IndexFunc_api_ShadeEntry_api_ShadeEntry d)) (gstart 19 (AL.can al_slices_IndexFunc_api_ShadeEntry_api_ShadeEntry d))=vc_slices_IndexFunc_api_ShadeEntry_api_ShadeEntry d.1 d.2:=by kernel_rfl
abbrev Ok_slices_IndexFunc_api_ShadeEntry_api_ShadeEntry:Prop:=OkC Tryz.prog 102 s_slices_IndexFunc_api_ShadeEntry_api_ShadeEntry
theorem mk_slices_IndexFunc_api_ShadeEntry_api_ShadeEntry (h:∀ (l:List (Int×Int)) (p:(Int×Int→Prop)×(Int×Int→Bool)),(l.length≤1000000∧∀ x∈l,p.1 x)→vc_slices_IndexFunc_api_ShadeEntry_api_ShadeEntry l p):OkC Tryz.prog 102 s_slices_IndexFunc_api_ShadeEntry_api_ShadeEntry :=
 okC_vc fun102 mixed (C:=cx_slices_IndexFunc_api_ShadeEntry_api_ShadeEntry) (V:=fun (d:(List (Int×Int))×((Int×Int→Prop)×(Int×Int→Bool)))=>vc_slices_IndexFunc_api_ShadeEntry_api_ShadeEntry d.1 d.2) ⟨.nil,XsOk.nil,ItsOk.nil,YlOk.nil,IysOk.nil,XfOk.nil⟩ (vq_slices_IndexFunc_api_ShadeEntry_api_ShadeEntry) fun d hp=>h d.1 d.2 hp
theorem ok_slices_IndexFunc_api_ShadeEntry_api_ShadeEntry:Ok_slices_IndexFunc_api_ShadeEntry_api_ShadeEntry:=mk_slices_IndexFunc_api_ShadeEntry_api_ShadeEntry fun l p hp=>by
 unfold vc_slices_IndexFunc_api_ShadeEntry_api_ShadeEntry;(try delta lI gD sT I64);simp only[true_and,and_true,exists_eq_left',exists_const,decide_eq_true_eq,decide_eq_false_iff_not]
 refine LoopP.count l.length (fun k=>(l.take k).any p.2=false) (by simp) fun k hk1 hJ q hq=>?_
 simp only[Int.toNat_natCast,Int.ofNat_lt,InK_i64];refine⟨fun hlt=>?_,fun hge=>?_⟩
 ·have hlt:k<l.length:=by omega
  rw[getD_nat hlt];refine⟨by omega,by omega,hp.2 _ (List.getElem_mem hlt),fun hx=>?_,fun hx=>⟨by omega,hq hlt ?_⟩⟩
  ·rw[idxG_some hlt hx hJ]
  ·rw[take_succ_eq hlt,List.any_append,hJ];simp[hx]
 ·rw[List.take_of_length_le (by omega)] at hJ
  rw[idxG_none hJ]
def al_slices_ContainsFunc_api_ShadeEntry_api_ShadeEntry:AL ((List (Int×Int))×((Int×Int→Prop)×(Int×Int→Bool))):=(.cons (.k (.list (.pair (.i .i64) (.i .i64)))) (.one (.fn [(.pair (.i .i64) (.i .i64))] .bo)))
def pre_slices_ContainsFunc_api_ShadeEntry_api_ShadeEntry (d:(List (Int×Int))×((Int×Int→Prop)×(Int×Int→Bool))):Prop:=d.1.length≤1000000∧∀ x∈d.1,d.2.1 x
def res_slices_ContainsFunc_api_ShadeEntry_api_ShadeEntry (d:(List (Int×Int))×((Int×Int→Prop)×(Int×Int→Bool))):SV:=.val .bo (d.1.any d.2.2)
def obs_slices_ContainsFunc_api_ShadeEntry_api_ShadeEntry (d:(List (Int×Int))×((Int×Int→Prop)×(Int×Int→Bool))):List OB:=[]
def s_slices_ContainsFunc_api_ShadeEntry_api_ShadeEntry:CSp:=mkSp al_slices_ContainsFunc_api_ShadeEntry_api_ShadeEntry pre_slices_ContainsFunc_api_ShadeEntry_api_ShadeEntry res_slices_ContainsFunc_api_ShadeEntry_api_ShadeEntry obs_slices_ContainsFunc_api_ShadeEntry_api_ShadeEntry
def vc_slices_ContainsFunc_api_ShadeEntry_api_ShadeEntry (l:List (Int×Int)) (p:(Int×Int→Prop)×(Int×Int→Bool)):Prop :=
 (l.length≤1000000∧∀ x∈l,(fun (x1:Int×Int)=>p.1 (x1.1,x1.2)) x)∧((decide ((idxG l (fun (x1:Int×Int)=>(p.2 (x1.1,x1.2))))≥(0:Int)))=(l.any p.2)∧(True))
def cx_slices_ContainsFunc_api_ShadeEntry_api_ShadeEntry:Cx:=⟨[],[(102,s_slices_IndexFunc_api_ShadeEntry_api_ShadeEntry)],9,[],0,[],[],[],[],false,[],[],[],[]⟩
def lp_slices_ContainsFunc_api_ShadeEntry_api_ShadeEntry (l:List (Int×Int)) (p:(Int×Int→Prop)×(Int×Int→Bool)):List (Nat×LoopAnn):=[]
set_option maxRecDepth 100000 in
theorem vq_slices_ContainsFunc_api_ShadeEntry_api_ShadeEntry (d:(List (Int×Int))×((Int×Int→Prop)×(Int×Int→Bool))):gwp (cx_slices_ContainsFunc_api_ShadeEntry_api_ShadeEntry) (lp_slices_ContainsFunc_api_ShadeEntry_api_ShadeEntry d.1 d.2) c85 0 (gend [.tmp 4] (res_slices_ContainsFunc_api_ShadeEntry_api_ShadeEntry d) (obs_slices_ContainsFunc_api_ShadeEntry_api_ShadeEntry d)) (gstart 9 (AL.can al_slices_ContainsFunc_api_ShadeEntry_api_ShadeEntry d))=vc_slices_ContainsFunc_api_ShadeEntry_api_ShadeEntry d.1 d.2:=by kernel_rfl
abbrev Ok_slices_ContainsFunc_api_ShadeEntry_api_ShadeEntry:Prop:=OkC Tryz.prog 85 s_slices_ContainsFunc_api_ShadeEntry_api_ShadeEntry
theorem mk_slices_ContainsFunc_api_ShadeEntry_api_ShadeEntry (h:∀ (l:List (Int×Int)) (p:(Int×Int→Prop)×(Int×Int→Bool)),(l.length≤1000000∧∀ x∈l,p.1 x)→vc_slices_ContainsFunc_api_ShadeEntry_api_ShadeEntry l p):OkC Tryz.prog 85 s_slices_ContainsFunc_api_ShadeEntry_api_ShadeEntry :=
 okC_vc fun85 mixed (C:=cx_slices_ContainsFunc_api_ShadeEntry_api_ShadeEntry) (V:=fun (d:(List (Int×Int))×((Int×Int→Prop)×(Int×Int→Bool)))=>vc_slices_ContainsFunc_api_ShadeEntry_api_ShadeEntry d.1 d.2) ⟨(.cons ok_slices_IndexFunc_api_ShadeEntry_api_ShadeEntry .nil),XsOk.nil,ItsOk.nil,YlOk.nil,IysOk.nil,XfOk.nil⟩ (vq_slices_ContainsFunc_api_ShadeEntry_api_ShadeEntry) fun d hp=>h d.1 d.2 hp
theorem ok_slices_ContainsFunc_api_ShadeEntry_api_ShadeEntry:Ok_slices_ContainsFunc_api_ShadeEntry_api_ShadeEntry:=mk_slices_ContainsFunc_api_ShadeEntry_api_ShadeEntry fun l p hp=>by
 simp only[vc_slices_ContainsFunc_api_ShadeEntry_api_ShadeEntry];exact⟨hp,idxG_any l p.2,trivial⟩
def al_shade_both:AL ((Int×Int)×Int×Int):=(.cons (.agg (.cons (.k (.i .i64)) (.one (.k (.i .i64))))) (.one (.agg (.cons (.k (.i .i64)) (.one (.k (.i .i64)))))))
def pre_shade_both (d:(Int×Int)×Int×Int):Prop:=True
def res_shade_both (d:(Int×Int)×Int×Int):SV:=.agg [.val (.i .i64) (gmax d.1.1 d.2.1),.val (.i .i64) (gmin d.1.2 d.2.2)]
def obs_shade_both (d:(Int×Int)×Int×Int):List OB:=[]
def s_shade_both:CSp:=mkSp al_shade_both pre_shade_both res_shade_both obs_shade_both
def vc_shade_both (a:Int) (b:Int) (c:Int) (d:Int):Prop :=
 (((gmax a c)=(gmax a c)∧(gmin b d)=(gmin b d)∧(([]:List SV)=[]))∧(True))
def cx_shade_both:Cx:=⟨[],[],16,[],0,[],[],[],[],false,[],[],[],[]⟩
def lp_shade_both (a:Int) (b:Int) (c:Int) (d:Int):List (Nat×LoopAnn):=[]
set_option maxRecDepth 100000 in
theorem vq_shade_both (d:(Int×Int)×Int×Int):gwp (cx_shade_both) (lp_shade_both d.1.1 d.1.2 d.2.1 d.2.2) c65 0 (gend [.cell 4 true 2] (res_shade_both d) (obs_shade_both d)) (gstart 16 (AL.can al_shade_both d))=vc_shade_both d.1.1 d.1.2 d.2.1 d.2.2:=by kernel_rfl
abbrev Ok_shade_both:Prop:=OkC Tryz.prog 65 s_shade_both
theorem mk_shade_both (h:∀ (a:Int) (b:Int) (c:Int) (d:Int),(True)→vc_shade_both a b c d):OkC Tryz.prog 65 s_shade_both :=
 okC_vc fun65 mixed (C:=cx_shade_both) (V:=fun (d:(Int×Int)×Int×Int)=>vc_shade_both d.1.1 d.1.2 d.2.1 d.2.2) ⟨.nil,XsOk.nil,ItsOk.nil,YlOk.nil,IysOk.nil,XfOk.nil⟩ (vq_shade_both) fun d hp=>h d.1.1 d.1.2 d.2.1 d.2.2 hp
theorem ok_shade_both:Ok_shade_both:=mk_shade_both fun a b c d _=>(by and_intros<;>first|rfl|trivial|simp)
def al_shade_anything:AL (Unit):=.nil
def pre_shade_anything (d:Unit):Prop:=True
def res_shade_anything (d:Unit):SV:=.agg [.val (.i .i64) (0:Int),.val (.i .i64) (1099511627776:Int)]
def obs_shade_anything (d:Unit):List OB:=[]
def s_shade_anything:CSp:=mkSp al_shade_anything pre_shade_anything res_shade_anything obs_shade_anything
def vc_shade_anything :Prop :=
 (((0:Int)=(0:Int)∧(1099511627776:Int)=(1099511627776:Int)∧(([]:List SV)=[]))∧(True))
def cx_shade_anything:Cx:=⟨[],[],2,[],0,[],[],[],[],false,[],[],[],[]⟩
def lp_shade_anything :List (Nat×LoopAnn):=[]
set_option maxRecDepth 100000 in
theorem vq_shade_anything (d:Unit):gwp (cx_shade_anything) (lp_shade_anything ) c62 0 (gend [.cell 0 true 2] (res_shade_anything d) (obs_shade_anything d)) (gstart 2 (AL.can al_shade_anything d))=vc_shade_anything :=by kernel_rfl
abbrev Ok_shade_anything:Prop:=OkC Tryz.prog 62 s_shade_anything
theorem mk_shade_anything (h:(True)→vc_shade_anything ):OkC Tryz.prog 62 s_shade_anything :=
 okC_vc fun62 mixed (C:=cx_shade_anything) (V:=fun (d:Unit)=>vc_shade_anything ) ⟨.nil,XsOk.nil,ItsOk.nil,YlOk.nil,IysOk.nil,XfOk.nil⟩ (vq_shade_anything) fun d hp=>h  hp
theorem ok_shade_anything:Ok_shade_anything:=mk_shade_anything fun _=>(by and_intros<;>first|rfl|trivial|simp)
def al_shade_book_real:AL ((Int×Int×List (Int×Int))×Int×Int):=(.cons (.agg (.cons (.k (.i .i64)) (.cons (.k (.i .i64)) (.one (.k (.list (.pair (.i .i64) (.i .i64)))))))) (.one (.agg (.cons (.k (.i .i64)) (.one (.k (.i .i64)))))))
def pre_shade_book_real (d:(Int×Int×List (Int×Int))×Int×Int):Prop:=0≤d.1.2.1∧d.1.2.1≤1000∧0≤d.2.2∧d.2.2≤12000000
def res_shade_book_real (d:(Int×Int×List (Int×Int))×Int×Int):SV:=.agg [.val (.i .i64) ((realB d.1.2.1 (d.2.1,d.2.2)).1),.val (.i .i64) ((realB d.1.2.1 (d.2.1,d.2.2)).2)]
def obs_shade_book_real (d:(Int×Int×List (Int×Int))×Int×Int):List OB:=[]
def s_shade_book_real:CSp:=mkSp al_shade_book_real pre_shade_book_real res_shade_book_real obs_shade_book_real
def vc_shade_book_real (g:Int) (s:Int) (l:List (Int×Int)) (k:Int) (x:Int):Prop :=
 (I64 (x-s))∧(I64 (x+s))∧(((gmax (0:Int) (x-s))=((realB s (k,x)).1)∧(x+s)=((realB s (k,x)).2)∧(([]:List SV)=[]))∧(True))
def cx_shade_book_real:Cx:=⟨[],[],17,[],0,[],[],[],[],false,[],[],[],[]⟩
def lp_shade_book_real (g:Int) (s:Int) (l:List (Int×Int)) (k:Int) (x:Int):List (Nat×LoopAnn):=[]
set_option maxRecDepth 100000 in
theorem vq_shade_book_real (d:(Int×Int×List (Int×Int))×Int×Int):gwp (cx_shade_book_real) (lp_shade_book_real d.1.1 d.1.2.1 d.1.2.2 d.2.1 d.2.2) c66 0 (gend [.cell 4 true 2] (res_shade_book_real d) (obs_shade_book_real d)) (gstart 17 (AL.can al_shade_book_real d))=vc_shade_book_real d.1.1 d.1.2.1 d.1.2.2 d.2.1 d.2.2:=by kernel_rfl
abbrev Ok_shade_book_real:Prop:=OkC Tryz.prog 66 s_shade_book_real
theorem mk_shade_book_real (h:∀ (g:Int) (s:Int) (l:List (Int×Int)) (k:Int) (x:Int),(0≤s∧s≤1000∧0≤x∧x≤12000000)→vc_shade_book_real g s l k x):OkC Tryz.prog 66 s_shade_book_real :=
 okC_vc fun66 mixed (C:=cx_shade_book_real) (V:=fun (d:(Int×Int×List (Int×Int))×Int×Int)=>vc_shade_book_real d.1.1 d.1.2.1 d.1.2.2 d.2.1 d.2.2) ⟨.nil,XsOk.nil,ItsOk.nil,YlOk.nil,IysOk.nil,XfOk.nil⟩ (vq_shade_book_real) fun d hp=>h d.1.1 d.1.2.1 d.1.2.2 d.2.1 d.2.2 hp
theorem ok_shade_book_real:Ok_shade_book_real:=mk_shade_book_real fun g s l k x h=>by
 obtain⟨h1,h2,h3,h4⟩:=h;unfold vc_shade_book_real;(try delta lI gD sT I64)
 refine⟨by rw[InK_i64];omega,by rw[InK_i64];omega,(by and_intros<;>first|rfl|trivial|simp)⟩
def al_shade_book_after:AL ((Int×Int×List (Int×Int))×(Int×Int)×Int×Int):=(.cons (.agg (.cons (.k (.i .i64)) (.cons (.k (.i .i64)) (.one (.k (.list (.pair (.i .i64) (.i .i64)))))))) (.cons (.agg (.cons (.k (.i .i64)) (.one (.k (.i .i64))))) (.one (.agg (.cons (.k (.i .i64)) (.one (.k (.i .i64))))))))
def pre_shade_book_after (d:(Int×Int×List (Int×Int))×(Int×Int)×Int×Int):Prop:=0≤d.1.2.1∧d.1.2.1≤1000∧0≤d.2.2.2∧d.2.2.2≤12000000∧-2000000000000≤d.2.1.1∧d.2.1.1≤2000000000000∧-2000000000000≤d.2.1.2∧d.2.1.2≤2000000000000
def res_shade_book_after (d:(Int×Int×List (Int×Int))×(Int×Int)×Int×Int):SV:=.agg [.val (.i .i64) ((afterB d.1.2.1 (d.2.1.1,d.2.1.2) (d.2.2.1,d.2.2.2)).1),.val (.i .i64) ((afterB d.1.2.1 (d.2.1.1,d.2.1.2) (d.2.2.1,d.2.2.2)).2)]
def obs_shade_book_after (d:(Int×Int×List (Int×Int))×(Int×Int)×Int×Int):List OB:=[]
def s_shade_book_after:CSp:=mkSp al_shade_book_after pre_shade_book_after res_shade_book_after obs_shade_book_after
def vc_shade_book_after (g:Int) (s:Int) (l:List (Int×Int)) (p:Int) (q:Int) (k:Int) (x:Int):Prop :=
 (0≤s∧s≤1000∧0≤x∧x≤12000000)∧((k==(1:Int))=true →
  (True)∧(I64 (p-((realB s (k,x)).2)))∧(I64 (q-((realB s (k,x)).1)))∧(True)∧(((gmax (0:Int) (p-((realB s (k,x)).2)))=((afterB s (p,q) (k,x)).1)∧(gmin (1099511627776:Int) (q-((realB s (k,x)).1)))=((afterB s (p,q) (k,x)).2)∧(([]:List SV)=[]))∧(True))) ∧
 ((k==(1:Int))=false →
  ((k==(2:Int))=true →
   (I64 (p+((realB s (k,x)).1)))∧(I64 (q+((realB s (k,x)).2)))∧(((p+((realB s (k,x)).1))=((afterB s (p,q) (k,x)).1)∧(q+((realB s (k,x)).2))=((afterB s (p,q) (k,x)).2)∧(([]:List SV)=[]))∧(True))) ∧
  ((k==(2:Int))=false →
   (True)∧(((gmax p ((realB s (k,x)).1))=((afterB s (p,q) (k,x)).1)∧(gmin q ((realB s (k,x)).2))=((afterB s (p,q) (k,x)).2)∧(([]:List SV)=[]))∧(True))))
def cx_shade_book_after:Cx:=⟨[],[(66,s_shade_book_real),(62,s_shade_anything),(65,s_shade_both)],44,[],0,[],[],[],[],false,[],[],[],[]⟩
def lp_shade_book_after (g:Int) (s:Int) (l:List (Int×Int)) (p:Int) (q:Int) (k:Int) (x:Int):List (Nat×LoopAnn):=[]
set_option maxRecDepth 100000 in
theorem vq_shade_book_after (d:(Int×Int×List (Int×Int))×(Int×Int)×Int×Int):gwp (cx_shade_book_after) (lp_shade_book_after d.1.1 d.1.2.1 d.1.2.2 d.2.1.1 d.2.1.2 d.2.2.1 d.2.2.2) c86 0 (gend [.cell 6 true 2] (res_shade_book_after d) (obs_shade_book_after d)) (gstart 44 (AL.can al_shade_book_after d))=vc_shade_book_after d.1.1 d.1.2.1 d.1.2.2 d.2.1.1 d.2.1.2 d.2.2.1 d.2.2.2:=by kernel_rfl
abbrev Ok_shade_book_after:Prop:=OkC Tryz.prog 86 s_shade_book_after
theorem mk_shade_book_after (h:∀ (g:Int) (s:Int) (l:List (Int×Int)) (p:Int) (q:Int) (k:Int) (x:Int),(0≤s∧s≤1000∧0≤x∧x≤12000000∧-2000000000000≤p∧p≤2000000000000∧-2000000000000≤q∧q≤2000000000000)→vc_shade_book_after g s l p q k x):OkC Tryz.prog 86 s_shade_book_after :=
 okC_vc fun86 mixed (C:=cx_shade_book_after) (V:=fun (d:(Int×Int×List (Int×Int))×(Int×Int)×Int×Int)=>vc_shade_book_after d.1.1 d.1.2.1 d.1.2.2 d.2.1.1 d.2.1.2 d.2.2.1 d.2.2.2) ⟨(.cons ok_shade_book_real (.cons ok_shade_anything (.cons ok_shade_both .nil))),XsOk.nil,ItsOk.nil,YlOk.nil,IysOk.nil,XfOk.nil⟩ (vq_shade_book_after) fun d hp=>h d.1.1 d.1.2.1 d.1.2.2 d.2.1.1 d.2.1.2 d.2.2.1 d.2.2.2 hp
theorem real_bd {s k x:Int}(h1:0≤s) (h2:s≤1000) (h3:0≤x) (h4:x≤12000000):0≤(realB s (k,x)).1∧(realB s (k,x)).1≤12000000∧0≤(realB s (k,x)).2∧(realB s (k,x)).2≤12001000:=by
 unfold realB;rw[gmax_eq];dsimp only;omega
theorem ok_shade_book_after:Ok_shade_book_after:=mk_shade_book_after fun g s l p q k x h=>by
 obtain⟨h1,h2,h3,h4,h5,h6,h7,h8⟩:=h;unfold vc_shade_book_after;(try delta lI gD sT I64)
 simp only[beq_iff_eq,beq_eq_false_iff_ne,ne_eq];have hr:=real_bd (k:=k) h1 h2 h3 h4;refine⟨⟨h1,h2,h3,h4⟩,fun e=>?_,fun e=>⟨fun e2=>?_,fun e2=>?_⟩⟩
 ·have ea:afterB s (p,q) (k,x)=(gmax 0 (p-(realB s (k,x)).2),gmin 1099511627776 (q-(realB s (k,x)).1)):=by unfold afterB;rw[if_pos e];rfl
  simp only[ea,InK_i64];and_intros<;>first|rfl|trivial|omega
 ·have ea:afterB s (p,q) (k,x)=(p+(realB s (k,x)).1,q+(realB s (k,x)).2):=by unfold afterB;rw[if_neg e,if_pos e2]
  simp only[ea,InK_i64];and_intros<;>first|rfl|trivial|omega
 ·have ea:afterB s (p,q) (k,x)=(gmax p (realB s (k,x)).1,gmin q (realB s (k,x)).2):=by unfold afterB;rw[if_neg e,if_neg e2];rfl
  simp only[ea];and_intros<;>first|rfl|trivial|omega
def al_shade_book_before:AL ((Int×Int×List (Int×Int))×(Int×Int)×Int×Int):=(.cons (.agg (.cons (.k (.i .i64)) (.cons (.k (.i .i64)) (.one (.k (.list (.pair (.i .i64) (.i .i64)))))))) (.cons (.agg (.cons (.k (.i .i64)) (.one (.k (.i .i64))))) (.one (.agg (.cons (.k (.i .i64)) (.one (.k (.i .i64))))))))
def pre_shade_book_before (d:(Int×Int×List (Int×Int))×(Int×Int)×Int×Int):Prop:=0≤d.1.2.1∧d.1.2.1≤1000∧0≤d.2.2.2∧d.2.2.2≤12000000∧-2000000000000≤d.2.1.1∧d.2.1.1≤2000000000000∧-2000000000000≤d.2.1.2∧d.2.1.2≤2000000000000
def res_shade_book_before (d:(Int×Int×List (Int×Int))×(Int×Int)×Int×Int):SV:=.agg [.val (.i .i64) ((beforeB d.1.2.1 (d.2.1.1,d.2.1.2) (d.2.2.1,d.2.2.2)).1),.val (.i .i64) ((beforeB d.1.2.1 (d.2.1.1,d.2.1.2) (d.2.2.1,d.2.2.2)).2)]
def obs_shade_book_before (d:(Int×Int×List (Int×Int))×(Int×Int)×Int×Int):List OB:=[]
def s_shade_book_before:CSp:=mkSp al_shade_book_before pre_shade_book_before res_shade_book_before obs_shade_book_before
def vc_shade_book_before (g:Int) (s:Int) (l:List (Int×Int)) (p:Int) (q:Int) (k:Int) (x:Int):Prop :=
 (0≤s∧s≤1000∧0≤x∧x≤12000000)∧((k==(1:Int))=true →
  (I64 (p+((realB s (k,x)).1)))∧(I64 (q+((realB s (k,x)).2)))∧(((p+((realB s (k,x)).1))=((beforeB s (p,q) (k,x)).1)∧(q+((realB s (k,x)).2))=((beforeB s (p,q) (k,x)).2)∧(([]:List SV)=[]))∧(True))) ∧
 ((k==(1:Int))=false →
  ((k==(2:Int))=true →
   (True)∧(I64 (p-((realB s (k,x)).2)))∧(I64 (q-((realB s (k,x)).1)))∧(True)∧(((gmax (0:Int) (p-((realB s (k,x)).2)))=((beforeB s (p,q) (k,x)).1)∧(gmin (1099511627776:Int) (q-((realB s (k,x)).1)))=((beforeB s (p,q) (k,x)).2)∧(([]:List SV)=[]))∧(True))) ∧
  ((k==(2:Int))=false →
   (True)∧(((gmax p ((realB s (k,x)).1))=((beforeB s (p,q) (k,x)).1)∧(gmin q ((realB s (k,x)).2))=((beforeB s (p,q) (k,x)).2)∧(([]:List SV)=[]))∧(True))))
def cx_shade_book_before:Cx:=⟨[],[(66,s_shade_book_real),(62,s_shade_anything),(65,s_shade_both)],44,[],0,[],[],[],[],false,[],[],[],[]⟩
def lp_shade_book_before (g:Int) (s:Int) (l:List (Int×Int)) (p:Int) (q:Int) (k:Int) (x:Int):List (Nat×LoopAnn):=[]
set_option maxRecDepth 100000 in
theorem vq_shade_book_before (d:(Int×Int×List (Int×Int))×(Int×Int)×Int×Int):gwp (cx_shade_book_before) (lp_shade_book_before d.1.1 d.1.2.1 d.1.2.2 d.2.1.1 d.2.1.2 d.2.2.1 d.2.2.2) c64 0 (gend [.cell 6 true 2] (res_shade_book_before d) (obs_shade_book_before d)) (gstart 44 (AL.can al_shade_book_before d))=vc_shade_book_before d.1.1 d.1.2.1 d.1.2.2 d.2.1.1 d.2.1.2 d.2.2.1 d.2.2.2:=by kernel_rfl
abbrev Ok_shade_book_before:Prop:=OkC Tryz.prog 64 s_shade_book_before
theorem mk_shade_book_before (h:∀ (g:Int) (s:Int) (l:List (Int×Int)) (p:Int) (q:Int) (k:Int) (x:Int),(0≤s∧s≤1000∧0≤x∧x≤12000000∧-2000000000000≤p∧p≤2000000000000∧-2000000000000≤q∧q≤2000000000000)→vc_shade_book_before g s l p q k x):OkC Tryz.prog 64 s_shade_book_before :=
 okC_vc fun64 mixed (C:=cx_shade_book_before) (V:=fun (d:(Int×Int×List (Int×Int))×(Int×Int)×Int×Int)=>vc_shade_book_before d.1.1 d.1.2.1 d.1.2.2 d.2.1.1 d.2.1.2 d.2.2.1 d.2.2.2) ⟨(.cons ok_shade_book_real (.cons ok_shade_anything (.cons ok_shade_both .nil))),XsOk.nil,ItsOk.nil,YlOk.nil,IysOk.nil,XfOk.nil⟩ (vq_shade_book_before) fun d hp=>h d.1.1 d.1.2.1 d.1.2.2 d.2.1.1 d.2.1.2 d.2.2.1 d.2.2.2 hp
theorem ok_shade_book_before:Ok_shade_book_before:=mk_shade_book_before fun g s l p q k x h=>by
 obtain⟨h1,h2,h3,h4,h5,h6,h7,h8⟩:=h;unfold vc_shade_book_before;(try delta lI gD sT I64)
 simp only[beq_iff_eq,beq_eq_false_iff_ne,ne_eq];have hr:=real_bd (k:=k) h1 h2 h3 h4;refine⟨⟨h1,h2,h3,h4⟩,fun e=>?_,fun e=>⟨fun e2=>?_,fun e2=>?_⟩⟩
 ·have ea:beforeB s (p,q) (k,x)=(p+(realB s (k,x)).1,q+(realB s (k,x)).2):=by unfold beforeB;rw[if_pos e]
  simp only[ea,InK_i64];and_intros<;>first|rfl|trivial|omega
 ·have ea:beforeB s (p,q) (k,x)=(gmax 0 (p-(realB s (k,x)).2),gmin 1099511627776 (q-(realB s (k,x)).1)):=by unfold beforeB;rw[if_neg e,if_pos e2];rfl
  simp only[ea,InK_i64];and_intros<;>first|rfl|trivial|omega
 ·have ea:beforeB s (p,q) (k,x)=(gmax p (realB s (k,x)).1,gmin q (realB s (k,x)).2):=by unfold beforeB;rw[if_neg e,if_neg e2];rfl
  simp only[ea];and_intros<;>first|rfl|trivial|omega
def al_shade_book_forth:AL (Int×Int×List (Int×Int)):=(.one (.agg (.cons (.k (.i .i64)) (.cons (.k (.i .i64)) (.one (.k (.list (.pair (.i .i64) (.i .i64)))))))))
def pre_shade_book_forth (d:Int×Int×List (Int×Int)):Prop:=bookOk d.1 d.2.1 d.2.2
def res_shade_book_forth (d:Int×Int×List (Int×Int)):SV:=.tup [.lst 0,.val (.i .i64) (wrongI d.1 d.2.1 d.2.2)]
def obs_shade_book_forth (d:Int×Int×List (Int×Int)):List OB:=[.lst 59 (.pair (.i .i64) (.i .i64)) (forthW d.1 d.2.1 d.2.2) false]
def s_shade_book_forth:CSp:=mkSp al_shade_book_forth pre_shade_book_forth res_shade_book_forth obs_shade_book_forth
def vc_shade_book_forth (g:Int) (s:Int) (l:List (Int×Int)):Prop :=
 ∃ (e3:Unit) (d30:(List (Int×Int))×Int),((True∧True∧l=l∧(lI l)=(lI l)∧(0:Int)=d30.2∧True)∧((g=g∧s=s∧l=l∧(([]:List SV)=[]))∧([(g,g)]=d30.1∧false=false)∧True)) ∧
 LoopP (fun (d3:(List (Int×Int))×Int) (q3:((List (Int×Int))×Int)→Prop) =>
  ((decide (d3.2<(lI l)))=true →
   (0≤d3.2)∧(d3.2<(List.length l))∧(0≤d3.2)∧(d3.2<(List.length d3.1))∧(0≤s∧s≤1000∧0≤((gD l d3.2 (0,0)).2)∧((gD l d3.2 (0,0)).2)≤12000000∧-2000000000000≤((gD d3.1 d3.2 (0,0)).1)∧((gD d3.1 d3.2 (0,0)).1)≤2000000000000∧-2000000000000≤((gD d3.1 d3.2 (0,0)).2)∧((gD d3.1 d3.2 (0,0)).2)≤2000000000000)∧((True∧True∧d3.2=d3.2∧True∧l=l∧(lI l)=(lI l)∧d3.2=d3.2∧(((afterB s (((gD d3.1 d3.2 (0,0)).1),((gD d3.1 d3.2 (0,0)).2)) (((gD l d3.2 (0,0)).1),((gD l d3.2 (0,0)).2))).1)=((afterB s (((gD d3.1 d3.2 (0,0)).1),((gD d3.1 d3.2 (0,0)).2)) (((gD l d3.2 (0,0)).1),((gD l d3.2 (0,0)).2))).1)∧((afterB s (((gD d3.1 d3.2 (0,0)).1),((gD d3.1 d3.2 (0,0)).2)) (((gD l d3.2 (0,0)).1),((gD l d3.2 (0,0)).2))).2)=((afterB s (((gD d3.1 d3.2 (0,0)).1),((gD d3.1 d3.2 (0,0)).2)) (((gD l d3.2 (0,0)).1),((gD l d3.2 (0,0)).2))).2)∧(([]:List SV)=[]))∧True)∧((g=g∧s=s∧l=l∧(([]:List SV)=[]))∧((gD l d3.2 (0,0)).1=(gD l d3.2 (0,0)).1∧(gD l d3.2 (0,0)).2=(gD l d3.2 (0,0)).2∧(([]:List SV)=[]))∧((0:Int)=(0:Int)∧(0:Int)=(0:Int)∧(([]:List SV)=[]))∧(d3.1=d3.1∧false=false)∧True))∧((0≤d3.2)∧(d3.2<(List.length d3.1))∧(0≤s∧s≤1000∧0≤((gD l d3.2 (0,0)).2)∧((gD l d3.2 (0,0)).2)≤12000000∧-2000000000000≤((gD d3.1 d3.2 (0,0)).1)∧((gD d3.1 d3.2 (0,0)).1)≤2000000000000∧-2000000000000≤((gD d3.1 d3.2 (0,0)).2)∧((gD d3.1 d3.2 (0,0)).2)≤2000000000000)∧((True∧True∧d3.2=d3.2∧True∧l=l∧(lI l)=(lI l)∧d3.2=d3.2∧(((afterB s (((gD d3.1 d3.2 (0,0)).1),((gD d3.1 d3.2 (0,0)).2)) (((gD l d3.2 (0,0)).1),((gD l d3.2 (0,0)).2))).1)=((afterB s (((gD d3.1 d3.2 (0,0)).1),((gD d3.1 d3.2 (0,0)).2)) (((gD l d3.2 (0,0)).1),((gD l d3.2 (0,0)).2))).1)∧((afterB s (((gD d3.1 d3.2 (0,0)).1),((gD d3.1 d3.2 (0,0)).2)) (((gD l d3.2 (0,0)).1),((gD l d3.2 (0,0)).2))).2)=((afterB s (((gD d3.1 d3.2 (0,0)).1),((gD d3.1 d3.2 (0,0)).2)) (((gD l d3.2 (0,0)).1),((gD l d3.2 (0,0)).2))).2)∧(([]:List SV)=[]))∧True)∧((g=g∧s=s∧l=l∧(([]:List SV)=[]))∧((gD l d3.2 (0,0)).1=(gD l d3.2 (0,0)).1∧(gD l d3.2 (0,0)).2=(gD l d3.2 (0,0)).2∧(([]:List SV)=[]))∧((0:Int)=(0:Int)∧(0:Int)=(0:Int)∧(([]:List SV)=[]))∧(d3.1=d3.1∧false=false)∧True)))∧((decide (((afterB s (((gD d3.1 d3.2 (0,0)).1),((gD d3.1 d3.2 (0,0)).2)) (((gD l d3.2 (0,0)).1),((gD l d3.2 (0,0)).2))).1) > ((afterB s (((gD d3.1 d3.2 (0,0)).1),((gD d3.1 d3.2 (0,0)).2)) (((gD l d3.2 (0,0)).1),((gD l d3.2 (0,0)).2))).2)))=true →
    ((True∧d3.2=(wrongI g s l)∧(([]:List SV)=[]))∧((d3.1=(forthW g s l)∧false=false)∧True))) ∧
   ((decide (((afterB s (((gD d3.1 d3.2 (0,0)).1),((gD d3.1 d3.2 (0,0)).2)) (((gD l d3.2 (0,0)).1),((gD l d3.2 (0,0)).2))).1) > ((afterB s (((gD d3.1 d3.2 (0,0)).1),((gD d3.1 d3.2 (0,0)).2)) (((gD l d3.2 (0,0)).1),((gD l d3.2 (0,0)).2))).2)))=false →
    (((List.length d3.1)+(List.length [(((afterB s (((gD d3.1 d3.2 (0,0)).1),((gD d3.1 d3.2 (0,0)).2)) (((gD l d3.2 (0,0)).1),((gD l d3.2 (0,0)).2))).1),((afterB s (((gD d3.1 d3.2 (0,0)).1),((gD d3.1 d3.2 (0,0)).2)) (((gD l d3.2 (0,0)).1),((gD l d3.2 (0,0)).2))).2))]))*16≤70368744177664)∧(I64 (d3.2+(1:Int)))∧(∃ d4:(List (Int×Int))×Int,((True∧True∧l=l∧(lI l)=(lI l)∧(d3.2+(1:Int))=d4.2∧True)∧((g=g∧s=s∧l=l∧(([]:List SV)=[]))∧((d3.1++[(((afterB s (((gD d3.1 d3.2 (0,0)).1),((gD d3.1 d3.2 (0,0)).2)) (((gD l d3.2 (0,0)).1),((gD l d3.2 (0,0)).2))).1),((afterB s (((gD d3.1 d3.2 (0,0)).1),((gD d3.1 d3.2 (0,0)).2)) (((gD l d3.2 (0,0)).1),((gD l d3.2 (0,0)).2))).2))])=d4.1∧false=false)∧True))∧q3 d4))) ∧
  ((decide (d3.2<(lI l)))=false →
   ((True∧(-1:Int)=(wrongI g s l)∧(([]:List SV)=[]))∧((d3.1=(forthW g s l)∧false=false)∧True)))) d30
def cx_shade_book_forth:Cx:=⟨[(59,(.pair (.i .i64) (.i .i64)))],[(86,s_shade_book_after)],41,[],0,[],[],[],[1,2,4,6,14,15,16,27],false,[],[],[],[]⟩
def lp_shade_book_forth (g:Int) (s:Int) (l:List (Int×Int)):List (Nat×LoopAnn):=[(0,⟨Unit,(List (Int×Int))×Int,[1,2,14,15,16],fun e x=>[.box 1 0,.lst 12,.val (.list (.pair (.i .i64) (.i .i64))) l,.val (.i .i64) (((List.length l):Nat):Int),.val (.i .i64) x.2],fun e x=>[(1,.slot 1,.cells [.val (.i .i64) g,.val (.i .i64) s,.val (.list (.pair (.i .i64) (.i .i64))) l] (some 121)),(12,.slot 2,.lst 59 (.pair (.i .i64) (.i .i64)) x.1 false)]⟩)]
set_option maxRecDepth 100000 in
theorem vq_shade_book_forth (d:Int×Int×List (Int×Int)):gwp (cx_shade_book_forth) (lp_shade_book_forth d.1 d.2.1 d.2.2) c60 0 (gend [.tmp 2,.tmp 3] (res_shade_book_forth d) (obs_shade_book_forth d)) (gstart 41 (AL.can al_shade_book_forth d))=vc_shade_book_forth d.1 d.2.1 d.2.2:=by kernel_rfl
abbrev Ok_shade_book_forth:Prop:=OkC Tryz.prog 60 s_shade_book_forth
theorem mk_shade_book_forth (h:∀ (g:Int) (s:Int) (l:List (Int×Int)),(bookOk g s l)→vc_shade_book_forth g s l):OkC Tryz.prog 60 s_shade_book_forth :=
 okC_vc fun60 mixed (C:=cx_shade_book_forth) (V:=fun (d:Int×Int×List (Int×Int))=>vc_shade_book_forth d.1 d.2.1 d.2.2) ⟨(.cons ok_shade_book_after .nil),XsOk.nil,ItsOk.nil,YlOk.nil,IysOk.nil,XfOk.nil⟩ (vq_shade_book_forth) fun d hp=>h d.1 d.2.1 d.2.2 hp
theorem wrongN_some {g s:Int}{l:List En}{k:Nat}(hk:k<l.length) (hn:∀ j,j<k→Ne (stB g s l (j+1))) (hb:(stB g s l (k+1)).1 > (stB g s l (k+1)).2):wrongN g s l=some k :=
 List.find?_range_eq_some.2 ⟨by simpa [badB] using hb,by simpa using hk,fun j hj=>by have:=hn j hj;unfold Ne at this;simp[badB];omega⟩
theorem wrongN_no {g s:Int}{l:List En}(hn:∀ j,j<l.length→Ne (stB g s l (j+1))):wrongN g s l=none :=
 List.find?_range_eq_none.2 fun j hj=>by have:=hn j hj;unfold Ne at this;simp[badB];omega
theorem stB_at {g s:Int}{l:List En}{n k:Nat}(h:k<n):((List.range n).map (stB g s l)).getD k (0,0)=stB g s l k:=by
 rw[getD_nat (by simpa using h)];simp
theorem ok_shade_book_forth:Ok_shade_book_forth:=mk_shade_book_forth fun g s l hb=>by
 have hb':=hb;obtain⟨b1,b2,b3,b4,b5,b6⟩:=hb';unfold vc_shade_book_forth;(try delta lI gD sT I64)
 (try simp only[decide_eq_true_eq,decide_eq_false_iff_not])
 refine⟨(),([(g,g)],0),(by and_intros<;>first|rfl|trivial|simp),?_⟩
 refine LoopP.count2 l.length (fun k sp=>sp=(List.range (k+1)).map (stB g s l)∧∀ j,j<k→Ne (stB g s l (j+1))) ⟨rfl,fun j hj=>by omega⟩ fun k sp hk hI q hq=>?_
 obtain⟨i1,i2⟩:=hI;subst i1;dsimp only;refine⟨fun hlt=>?_,fun hge=>?_⟩
 ·have hkl:k<l.length:=by omega
  have hbd:=stB_bd hb k (by omega) fun j h1 h2=>i2 j (by omega)
  have hx:=b6 _ (List.getElem_mem hkl);obtain⟨x1,x2,x3,x4⟩:=hx;have hsu:=stB_succ (g:=g) (s:=s) hkl;have hlen:((List.range (k+1)).map (stB g s l)).length=k+1:=by simp
  have hp:∀ y:Int×Int,(y.1,y.2)=y:=fun _=>rfl;have hst0:-100000000≤(stB g s l k).2:=by omega
  simp only[Int.toNat_natCast,stB_at (show k<k+1 by omega),getD_nat (d:=((0,0):Int×Int)) hkl,hp,←hsu,hlen,true_and,and_true,List.length_cons,List.length_nil]
  have hT:∀ P:Prop,P→P:=fun _ h=>h
  refine⟨by omega,by omega,by omega,by omega,⟨b3,b4,by omega,by omega,by omega,by omega,by omega,by omega⟩,⟨by omega,by omega,b3,b4,by omega,by omega,by omega,by omega,by omega,by omega⟩,fun hbad=>?_,fun hok=>⟨by omega,by rw[InK_i64];omega,((List.range (k+1)).map (stB g s l)++[stB g s l (k+1)],(k:Int)+1),(by and_intros<;>first|rfl|trivial|simp),hq _ hkl ⟨by rw[List.range_succ (n:=k+1),List.map_append];rfl,fun j hj=>?_⟩⟩⟩
  ·have hw:=wrongN_some hkl i2 hbad;have hwi:wrongI g s l=k:=by unfold wrongI;rw[hw]
   have hfw:forthW g s l=(List.range (k+1)).map (stB g s l):=by unfold forthW;rw[hw]
   rw[hwi,hfw];exact⟨rfl,rfl⟩
  ·rcases Nat.lt_succ_iff_lt_or_eq.1 hj with hj|rfl
   ·exact i2 j hj
   ·unfold Ne;omega
 ·have:k=l.length:=by omega
  subst this;have hn:=wrongN_no i2;have hwi:wrongI g s l=-1:=by unfold wrongI;rw[hn]
  have hfw:forthW g s l=(List.range (l.length+1)).map (stB g s l):=by unfold forthW;rw[hn]
  rw[hwi,hfw];and_intros<;>first|rfl|trivial
def cx_shade_newBook:Cx:=⟨[(3,(.i .i64))],[(84,s_shade_newBook_1),(61,s_shade_within),(85,s_slices_ContainsFunc_api_ShadeEntry_api_ShadeEntry)],33,[],0,[],[],[],[],false,[],[],[],[]⟩
def x_shade_newBook:XSp:=inlX cx_shade_newBook (fun _=>[]) c59 [.cell 6 true 3,.tmp 7] 33
theorem okx_shade_newBook:XOk Tryz.prog 59 x_shade_newBook:=inlX_ok fun59 mixed (C:=cx_shade_newBook) ⟨(.cons ok_shade_newBook_1 (.cons ok_shade_within (.cons ok_slices_ContainsFunc_api_ShadeEntry_api_ShadeEntry .nil))),XsOk.nil,ItsOk.nil,YlOk.nil,IysOk.nil,XfOk.nil⟩ _
end Go.Proofs.Tryz
set_option linter.unusedVariables false
namespace Go.Proofs.Tryz
open Go Go.V Go.Proofs
def al_shade_Book:AL (Int×Int×List (Int×Int)):=(.cons (.k (.i .i64)) (.cons (.k (.i .i64)) (.one (.k (.list (.pair (.i .i64) (.i .i64)))))))
def pre_shade_Book (d:Int×Int×List (Int×Int)):Prop:=d.2.2.length≤1000
def res_shade_Book (d:Int×Int×List (Int×Int)):SV:=.tup [.agg [.val (.i .i64) ((bookSp d.1 d.2.1 d.2.2).1),.val (.i .i64) ((bookSp d.1 d.2.1 d.2.2).2)],.val (.i .i64) (bookAt d.1 d.2.1 d.2.2),.val (.i .i64) (bookErr d.1 d.2.1 d.2.2)]
def obs_shade_Book (d:Int×Int×List (Int×Int)):List OB:=[]
def s_shade_Book:CSp:=mkSp al_shade_Book pre_shade_Book res_shade_Book obs_shade_Book
def vc_shade_Book (g:Int) (s:Int) (l:List (Int×Int)):Prop :=
 ∀ w1:List Value,([g].length≤1000000)∧((!(!([g].any fun n=>decide (n<(1:Int))||decide ((1000000:Int)<n))))=true →
  ((!(!([g].any fun n=>decide (n<(1:Int))||decide ((1000000:Int)<n))))=true →
   w1=w1∧(((2:Int) != (0:Int))=true →
    ((((0:Int)=((bookSp g s l).1)∧(0:Int)=((bookSp g s l).2)∧(([]:List SV)=[]))∧(0:Int)=(bookAt g s l)∧(2:Int)=(bookErr g s l)∧(([]:List SV)=[]))∧(True))) ∧
   (((2:Int) != (0:Int))=false →
    (bookOk (0:Int) (0:Int) ([]:List (Int×Int)))∧((decide ((wrongI (0:Int) (0:Int) ([]:List (Int×Int)))≥(0:Int)))=true →
     ((((0:Int)=((bookSp g s l).1)∧(0:Int)=((bookSp g s l).2)∧(([]:List SV)=[]))∧(wrongI (0:Int) (0:Int) ([]:List (Int×Int)))=(bookAt g s l)∧(90:Int)=(bookErr g s l)∧(([]:List SV)=[]))∧(True))) ∧
    ((decide ((wrongI (0:Int) (0:Int) ([]:List (Int×Int)))≥(0:Int)))=false →
     (0≤(lI l))∧((lI l)<(List.length (forthW (0:Int) (0:Int) ([]:List (Int×Int)))))∧((((gD (forthW (0:Int) (0:Int) ([]:List (Int×Int))) (lI l) (0,0)).1=((bookSp g s l).1)∧(gD (forthW (0:Int) (0:Int) ([]:List (Int×Int))) (lI l) (0,0)).2=((bookSp g s l).2)∧(([]:List SV)=[]))∧(0:Int)=(bookAt g s l)∧(0:Int)=(bookErr g s l)∧(([]:List SV)=[]))∧(True))))) ∧
  ((!(!([g].any fun n=>decide (n<(1:Int))||decide ((1000000:Int)<n))))=false →
   ((decide ((lI l) > (40:Int)))=true →
    w1=w1∧(((5:Int) != (0:Int))=true →
     ((((0:Int)=((bookSp g s l).1)∧(0:Int)=((bookSp g s l).2)∧(([]:List SV)=[]))∧(0:Int)=(bookAt g s l)∧(5:Int)=(bookErr g s l)∧(([]:List SV)=[]))∧(True))) ∧
    (((5:Int) != (0:Int))=false →
     (bookOk (0:Int) (0:Int) ([]:List (Int×Int)))∧((decide ((wrongI (0:Int) (0:Int) ([]:List (Int×Int)))≥(0:Int)))=true →
      ((((0:Int)=((bookSp g s l).1)∧(0:Int)=((bookSp g s l).2)∧(([]:List SV)=[]))∧(wrongI (0:Int) (0:Int) ([]:List (Int×Int)))=(bookAt g s l)∧(90:Int)=(bookErr g s l)∧(([]:List SV)=[]))∧(True))) ∧
     ((decide ((wrongI (0:Int) (0:Int) ([]:List (Int×Int)))≥(0:Int)))=false →
      (0≤(lI l))∧((lI l)<(List.length (forthW (0:Int) (0:Int) ([]:List (Int×Int)))))∧((((gD (forthW (0:Int) (0:Int) ([]:List (Int×Int))) (lI l) (0,0)).1=((bookSp g s l).1)∧(gD (forthW (0:Int) (0:Int) ([]:List (Int×Int))) (lI l) (0,0)).2=((bookSp g s l).2)∧(([]:List SV)=[]))∧(0:Int)=(bookAt g s l)∧(0:Int)=(bookErr g s l)∧(([]:List SV)=[]))∧(True))))) ∧
   ((decide ((lI l) > (40:Int)))=false →
    (l.length≤1000000∧∀ x∈l,(fun (x1:Int×Int)=>True) x)∧((l.any (fun (x1:Int×Int)=>(!inI x1.1 1 3||!inI x1.2 0 12000000)))=true →
     w1=w1∧(((2:Int) != (0:Int))=true →
      ((((0:Int)=((bookSp g s l).1)∧(0:Int)=((bookSp g s l).2)∧(([]:List SV)=[]))∧(0:Int)=(bookAt g s l)∧(2:Int)=(bookErr g s l)∧(([]:List SV)=[]))∧(True))) ∧
     (((2:Int) != (0:Int))=false →
      (bookOk (0:Int) (0:Int) ([]:List (Int×Int)))∧((decide ((wrongI (0:Int) (0:Int) ([]:List (Int×Int)))≥(0:Int)))=true →
       ((((0:Int)=((bookSp g s l).1)∧(0:Int)=((bookSp g s l).2)∧(([]:List SV)=[]))∧(wrongI (0:Int) (0:Int) ([]:List (Int×Int)))=(bookAt g s l)∧(90:Int)=(bookErr g s l)∧(([]:List SV)=[]))∧(True))) ∧
      ((decide ((wrongI (0:Int) (0:Int) ([]:List (Int×Int)))≥(0:Int)))=false →
       (0≤(lI l))∧((lI l)<(List.length (forthW (0:Int) (0:Int) ([]:List (Int×Int)))))∧((((gD (forthW (0:Int) (0:Int) ([]:List (Int×Int))) (lI l) (0,0)).1=((bookSp g s l).1)∧(gD (forthW (0:Int) (0:Int) ([]:List (Int×Int))) (lI l) (0,0)).2=((bookSp g s l).2)∧(([]:List SV)=[]))∧(0:Int)=(bookAt g s l)∧(0:Int)=(bookErr g s l)∧(([]:List SV)=[]))∧(True))))) ∧
    ((l.any (fun (x1:Int×Int)=>(!inI x1.1 1 3||!inI x1.2 0 12000000)))=false →
     w1=w1∧(((0:Int) != (0:Int))=true →
      ((((0:Int)=((bookSp g s l).1)∧(0:Int)=((bookSp g s l).2)∧(([]:List SV)=[]))∧(0:Int)=(bookAt g s l)∧(0:Int)=(bookErr g s l)∧(([]:List SV)=[]))∧(True))) ∧
     (((0:Int) != (0:Int))=false →
      (bookOk g s l)∧((decide ((wrongI g s l)≥(0:Int)))=true →
       ((((0:Int)=((bookSp g s l).1)∧(0:Int)=((bookSp g s l).2)∧(([]:List SV)=[]))∧(wrongI g s l)=(bookAt g s l)∧(90:Int)=(bookErr g s l)∧(([]:List SV)=[]))∧(True))) ∧
      ((decide ((wrongI g s l)≥(0:Int)))=false →
       (0≤(lI l))∧((lI l)<(List.length (forthW g s l)))∧((((gD (forthW g s l) (lI l) (0,0)).1=((bookSp g s l).1)∧(gD (forthW g s l) (lI l) (0,0)).2=((bookSp g s l).2)∧(([]:List SV)=[]))∧(0:Int)=(bookAt g s l)∧(0:Int)=(bookErr g s l)∧(([]:List SV)=[]))∧(True)))))))) ∧
 ((!(!([g].any fun n=>decide (n<(1:Int))||decide ((1000000:Int)<n))))=false →
  ([s].length≤1000000)∧((!(!([s].any fun n=>decide (n<(0:Int))||decide ((1000:Int)<n))))=true →
   w1=w1∧(((2:Int) != (0:Int))=true →
    ((((0:Int)=((bookSp g s l).1)∧(0:Int)=((bookSp g s l).2)∧(([]:List SV)=[]))∧(0:Int)=(bookAt g s l)∧(2:Int)=(bookErr g s l)∧(([]:List SV)=[]))∧(True))) ∧
   (((2:Int) != (0:Int))=false →
    (bookOk (0:Int) (0:Int) ([]:List (Int×Int)))∧((decide ((wrongI (0:Int) (0:Int) ([]:List (Int×Int)))≥(0:Int)))=true →
     ((((0:Int)=((bookSp g s l).1)∧(0:Int)=((bookSp g s l).2)∧(([]:List SV)=[]))∧(wrongI (0:Int) (0:Int) ([]:List (Int×Int)))=(bookAt g s l)∧(90:Int)=(bookErr g s l)∧(([]:List SV)=[]))∧(True))) ∧
    ((decide ((wrongI (0:Int) (0:Int) ([]:List (Int×Int)))≥(0:Int)))=false →
     (0≤(lI l))∧((lI l)<(List.length (forthW (0:Int) (0:Int) ([]:List (Int×Int)))))∧((((gD (forthW (0:Int) (0:Int) ([]:List (Int×Int))) (lI l) (0,0)).1=((bookSp g s l).1)∧(gD (forthW (0:Int) (0:Int) ([]:List (Int×Int))) (lI l) (0,0)).2=((bookSp g s l).2)∧(([]:List SV)=[]))∧(0:Int)=(bookAt g s l)∧(0:Int)=(bookErr g s l)∧(([]:List SV)=[]))∧(True))))) ∧
  ((!(!([s].any fun n=>decide (n<(0:Int))||decide ((1000:Int)<n))))=false →
   ((decide ((lI l) > (40:Int)))=true →
    w1=w1∧(((5:Int) != (0:Int))=true →
     ((((0:Int)=((bookSp g s l).1)∧(0:Int)=((bookSp g s l).2)∧(([]:List SV)=[]))∧(0:Int)=(bookAt g s l)∧(5:Int)=(bookErr g s l)∧(([]:List SV)=[]))∧(True))) ∧
    (((5:Int) != (0:Int))=false →
     (bookOk (0:Int) (0:Int) ([]:List (Int×Int)))∧((decide ((wrongI (0:Int) (0:Int) ([]:List (Int×Int)))≥(0:Int)))=true →
      ((((0:Int)=((bookSp g s l).1)∧(0:Int)=((bookSp g s l).2)∧(([]:List SV)=[]))∧(wrongI (0:Int) (0:Int) ([]:List (Int×Int)))=(bookAt g s l)∧(90:Int)=(bookErr g s l)∧(([]:List SV)=[]))∧(True))) ∧
     ((decide ((wrongI (0:Int) (0:Int) ([]:List (Int×Int)))≥(0:Int)))=false →
      (0≤(lI l))∧((lI l)<(List.length (forthW (0:Int) (0:Int) ([]:List (Int×Int)))))∧((((gD (forthW (0:Int) (0:Int) ([]:List (Int×Int))) (lI l) (0,0)).1=((bookSp g s l).1)∧(gD (forthW (0:Int) (0:Int) ([]:List (Int×Int))) (lI l) (0,0)).2=((bookSp g s l).2)∧(([]:List SV)=[]))∧(0:Int)=(bookAt g s l)∧(0:Int)=(bookErr g s l)∧(([]:List SV)=[]))∧(True))))) ∧
   ((decide ((lI l) > (40:Int)))=false →
    (l.length≤1000000∧∀ x∈l,(fun (x2:Int×Int)=>True) x)∧((l.any (fun (x2:Int×Int)=>(!inI x2.1 1 3||!inI x2.2 0 12000000)))=true →
     w1=w1∧(((2:Int) != (0:Int))=true →
      ((((0:Int)=((bookSp g s l).1)∧(0:Int)=((bookSp g s l).2)∧(([]:List SV)=[]))∧(0:Int)=(bookAt g s l)∧(2:Int)=(bookErr g s l)∧(([]:List SV)=[]))∧(True))) ∧
     (((2:Int) != (0:Int))=false →
      (bookOk (0:Int) (0:Int) ([]:List (Int×Int)))∧((decide ((wrongI (0:Int) (0:Int) ([]:List (Int×Int)))≥(0:Int)))=true →
       ((((0:Int)=((bookSp g s l).1)∧(0:Int)=((bookSp g s l).2)∧(([]:List SV)=[]))∧(wrongI (0:Int) (0:Int) ([]:List (Int×Int)))=(bookAt g s l)∧(90:Int)=(bookErr g s l)∧(([]:List SV)=[]))∧(True))) ∧
      ((decide ((wrongI (0:Int) (0:Int) ([]:List (Int×Int)))≥(0:Int)))=false →
       (0≤(lI l))∧((lI l)<(List.length (forthW (0:Int) (0:Int) ([]:List (Int×Int)))))∧((((gD (forthW (0:Int) (0:Int) ([]:List (Int×Int))) (lI l) (0,0)).1=((bookSp g s l).1)∧(gD (forthW (0:Int) (0:Int) ([]:List (Int×Int))) (lI l) (0,0)).2=((bookSp g s l).2)∧(([]:List SV)=[]))∧(0:Int)=(bookAt g s l)∧(0:Int)=(bookErr g s l)∧(([]:List SV)=[]))∧(True))))) ∧
    ((l.any (fun (x2:Int×Int)=>(!inI x2.1 1 3||!inI x2.2 0 12000000)))=false →
     w1=w1∧(((0:Int) != (0:Int))=true →
      ((((0:Int)=((bookSp g s l).1)∧(0:Int)=((bookSp g s l).2)∧(([]:List SV)=[]))∧(0:Int)=(bookAt g s l)∧(0:Int)=(bookErr g s l)∧(([]:List SV)=[]))∧(True))) ∧
     (((0:Int) != (0:Int))=false →
      (bookOk g s l)∧((decide ((wrongI g s l)≥(0:Int)))=true →
       ((((0:Int)=((bookSp g s l).1)∧(0:Int)=((bookSp g s l).2)∧(([]:List SV)=[]))∧(wrongI g s l)=(bookAt g s l)∧(90:Int)=(bookErr g s l)∧(([]:List SV)=[]))∧(True))) ∧
      ((decide ((wrongI g s l)≥(0:Int)))=false →
       (0≤(lI l))∧((lI l)<(List.length (forthW g s l)))∧((((gD (forthW g s l) (lI l) (0,0)).1=((bookSp g s l).1)∧(gD (forthW g s l) (lI l) (0,0)).2=((bookSp g s l).2)∧(([]:List SV)=[]))∧(0:Int)=(bookAt g s l)∧(0:Int)=(bookErr g s l)∧(([]:List SV)=[]))∧(True))))))))
def cx_shade_Book:Cx:=⟨[(3,(.i .i64))],[(61,s_shade_within),(60,s_shade_book_forth),(85,s_slices_ContainsFunc_api_ShadeEntry_api_ShadeEntry),(84,s_shade_newBook_1)],37,[],0,[(59,x_shade_newBook)],[],[],[],false,[],[],[],[]⟩
def lp_shade_Book (g:Int) (s:Int) (l:List (Int×Int)):List (Nat×LoopAnn):=[]
set_option maxRecDepth 100000 in
theorem vq_shade_Book (d:Int×Int×List (Int×Int)):gwp (cx_shade_Book) (lp_shade_Book d.1 d.2.1 d.2.2) c32 0 (gend [.cell 6 true 2,.tmp 7,.tmp 8] (res_shade_Book d) (obs_shade_Book d)) (gstart 37 (AL.can al_shade_Book d))=vc_shade_Book d.1 d.2.1 d.2.2:=by kernel_rfl
abbrev Ok_shade_Book:Prop:=OkC Tryz.prog 32 s_shade_Book
theorem mk_shade_Book (h:∀ (g:Int) (s:Int) (l:List (Int×Int)),(l.length≤1000)→vc_shade_Book g s l):OkC Tryz.prog 32 s_shade_Book :=
 okC_vc fun32 mixed (C:=cx_shade_Book) (V:=fun (d:Int×Int×List (Int×Int))=>vc_shade_Book d.1 d.2.1 d.2.2) ⟨(.cons ok_shade_within (.cons ok_shade_book_forth (.cons ok_slices_ContainsFunc_api_ShadeEntry_api_ShadeEntry (.cons ok_shade_newBook_1 .nil)))),(XsOk.cons okx_shade_newBook XsOk.nil),ItsOk.nil,YlOk.nil,IysOk.nil,XfOk.nil⟩ (vq_shade_Book) fun d hp=>h d.1 d.2.1 d.2.2 hp
theorem dead2:((2:Int) != 0)=true:=rfl
theorem dead5:((5:Int) != 0)=true:=rfl
theorem dead0:((0:Int) != 0)=false:=rfl
theorem ent2a {g s:Int}{l:List En}(h:inI g 1 1000000=false):entErr g s l=2:=by unfold entErr;rw[h];rfl
theorem ent2b {g s:Int}{l:List En}(h:inI s 0 1000=false):entErr g s l=2:=by unfold entErr;rw[h,Bool.not_false,Bool.or_true,if_pos rfl]
theorem ent5 {g s:Int}{l:List En}(h1:inI g 1 1000000=true) (h2:inI s 0 1000=true) (h:40<(l.length:Int)):entErr g s l=5:=by unfold entErr;rw[h1,h2,if_neg (by decide),if_pos (by omega)]
theorem ent2c {g s:Int}{l:List En}(h1:inI g 1 1000000=true) (h2:inI s 0 1000=true) (h3:¬ 40<(l.length:Int)) (h:(l.any fun x=>!inI x.1 1 3||!inI x.2 0 12000000)=true):entErr g s l=2:=by
 unfold entErr;rw[h1,h2,if_neg (by decide),if_neg (by omega),if_pos h]
theorem ent0 {g s:Int}{l:List En}(h1:inI g 1 1000000=true) (h2:inI s 0 1000=true) (h3:¬ 40<(l.length:Int)) (h:(l.any fun x=>!inI x.1 1 3||!inI x.2 0 12000000)=false):entErr g s l=0:=by
 unfold entErr;rw[h1,h2,if_neg (by decide),if_neg (by omega),if_neg (by rw[h];decide)]
theorem book_err {g s e:Int}{l:List En}(he:entErr g s l=e) (h0:e≠0):bookErr g s l=e∧bookAt g s l=0∧bookSp g s l=(0,0):=by
 have h1:bookErr g s l=e:=by unfold bookErr;rw[he,if_pos h0]
 refine⟨h1,?_,?_⟩
 ·unfold bookAt;rw[he,if_neg (fun h=>h0 h.1)]
 ·unfold bookSp;rw[h1,if_neg h0]
theorem book_bad {g s:Int}{l:List En}(he:entErr g s l=0) (hw:0≤wrongI g s l):bookErr g s l=90∧bookAt g s l=wrongI g s l∧bookSp g s l=(0,0):=by
 have h1:bookErr g s l=90:=by unfold bookErr;rw[he,if_neg (by decide),if_pos hw]
 refine⟨h1,?_,?_⟩
 ·unfold bookAt;rw[if_pos ⟨he,hw⟩]
 ·unfold bookSp;rw[h1,if_neg (by decide)]
theorem book_good {g s:Int}{l:List En}(he:entErr g s l=0) (hw:¬ 0≤wrongI g s l):bookErr g s l=0∧bookAt g s l=0∧bookSp g s l=stB g s l l.length∧forthW g s l=(List.range (l.length+1)).map (stB g s l):=by
 have h1:bookErr g s l=0:=by unfold bookErr;rw[he,if_neg (by decide),if_neg hw]
 refine⟨h1,?_,?_,?_⟩
 ·unfold bookAt;rw[if_neg (fun h=>hw h.2)]
 ·unfold bookSp;rw[if_pos h1]
 ·unfold forthW;rw[wrongN_no (wrong_none.1 (by omega))]
theorem ok_shade_Book:Ok_shade_Book:=mk_shade_Book fun g s l hl=>by
 unfold vc_shade_Book;(try delta lI gD sT I64)
 simp only[List.any_cons,List.any_nil,Bool.or_false,Bool.not_not,←nI,List.length_cons,List.length_nil,dead2,dead5,dead0,Bool.true_eq_false,true_and,and_true,decide_eq_true_eq,decide_eq_false_iff_not,Bool.not_eq_true',Bool.not_eq_false',Int.toNat_natCast,Int.ofNat_lt,gt_iff_lt,ge_iff_le,false_implies,Bool.false_eq_true,Bool.or_false,implies_true,forall_const]
 have R0:∀ {e:Int},entErr g s l=e→e≠0→(0=(bookSp g s l).1∧0=(bookSp g s l).2)∧0=bookAt g s l∧e=bookErr g s l:=fun he h0=>by
  obtain⟨a,b,c⟩:=book_err he h0;rw[a,b,c];exact⟨⟨rfl,rfl⟩,rfl,rfl⟩
 refine⟨by omega,fun h1=>⟨fun _=>R0 (ent2a h1) (by decide),fun h=>by rw[h1] at h;cases h⟩,fun h1=>⟨by omega,fun h2=>R0 (ent2b h2) (by decide),fun h2=>⟨fun h3=>R0 (ent5 h1 h2 h3) (by decide),fun h3=>⟨by omega,fun h4=>R0 (ent2c h1 h2 h3 h4) (by decide),fun h4=>?_⟩⟩⟩⟩
 have he:=ent0 h1 h2 h3 h4;refine⟨entErr_zero he,fun hw=>?_,fun hw=>?_⟩
 ·obtain⟨a,b,c⟩:=book_bad he hw;rw[a,b,c];exact⟨⟨rfl,rfl⟩,rfl,rfl⟩
 ·obtain⟨a,b,c,d⟩:=book_good he hw;rw[a,b,c,d,stB_at (by omega)]
  exact⟨by omega,by simp,⟨rfl,rfl⟩,rfl,rfl⟩
end Go.Proofs.Tryz
set_option linter.unusedVariables false
namespace Go.Proofs.Tryz
open Go Go.V Go.Proofs
def al_law09_entries:AL (List (Int×Int)):=(.one (.k (.list (.pair (.i .i64) (.i .i64)))))
def pre_law09_entries (d:List (Int×Int)):Prop:=d.length≤1000
def res_law09_entries (d:List (Int×Int)):SV:=.lst 0
def obs_law09_entries (d:List (Int×Int)):List OB:=[.lst 66 (.pair (.i .i64) (.i .i64)) d false]
def s_law09_entries:CSp:=mkSp al_law09_entries pre_law09_entries res_law09_entries obs_law09_entries
def vc_law09_entries (l:List (Int×Int)):Prop :=
 (((List.length ([]:List (Int×Int)))+(List.length l))*16≤70368744177664)∧(True∧(((([]:List (Int×Int))++l)=l∧((List.isEmpty l)&&false)=false)∧True))
def cx_law09_entries:Cx:=⟨[(66,(.pair (.i .i64) (.i .i64)))],[],6,[],0,[],[],[],[],false,[],[],[],[]⟩
def lp_law09_entries (l:List (Int×Int)):List (Nat×LoopAnn):=[]
set_option maxRecDepth 100000 in
theorem vq_law09_entries (d:List (Int×Int)):gwp (cx_law09_entries) (lp_law09_entries d) c31 0 (gend [.tmp 2] (res_law09_entries d) (obs_law09_entries d)) (gstart 6 (AL.can al_law09_entries d))=vc_law09_entries d:=by kernel_rfl
abbrev Ok_law09_entries:Prop:=OkC Tryz.prog 31 s_law09_entries
theorem mk_law09_entries (h:∀ (l:List (Int×Int)),(l.length≤1000)→vc_law09_entries l):OkC Tryz.prog 31 s_law09_entries :=
 okC_vc fun31 mixed (C:=cx_law09_entries) (V:=fun (d:List (Int×Int))=>vc_law09_entries d) ⟨.nil,XsOk.nil,ItsOk.nil,YlOk.nil,IysOk.nil,XfOk.nil⟩ (vq_law09_entries) fun d hp=>h d hp
theorem ok_law09_entries:Ok_law09_entries:=mk_law09_entries fun l h=>by
 have h1:l.length*16≤70368744177664:=by omega
 simp[vc_law09_entries,h1]
end Go.Proofs.Tryz
set_option linter.unusedVariables false
namespace Go.Proofs.Tryz
open Go Go.V Go.Proofs
def cx_slices_Backward_api_ShadeEntry_api_ShadeEntry:Cx:=⟨[],[],4,[],0,[],[],[],[],false,[],[],[],[]⟩
def x_slices_Backward_api_ShadeEntry_api_ShadeEntry:XSp:=inlX cx_slices_Backward_api_ShadeEntry_api_ShadeEntry (fun _=>[]) c63 [.tmp 2] 4
theorem okx_slices_Backward_api_ShadeEntry_api_ShadeEntry:XOk Tryz.prog 63 x_slices_Backward_api_ShadeEntry_api_ShadeEntry:=inlX_ok fun63 mixed (C:=cx_slices_Backward_api_ShadeEntry_api_ShadeEntry) ⟨.nil,XsOk.nil,ItsOk.nil,YlOk.nil,IysOk.nil,XfOk.nil⟩ _
end Go.Proofs.Tryz
set_option linter.unusedVariables false
namespace Go.Proofs.Tryz
open Go Go.V Go.Proofs
def al_shade_Was:AL (Int×Int×(List (Int×Int))×Int):=(.cons (.k (.i .i64)) (.cons (.k (.i .i64)) (.cons (.k (.list (.pair (.i .i64) (.i .i64)))) (.one (.k (.i .i64))))))
def pre_shade_Was (d:Int×Int×(List (Int×Int))×Int):Prop:=d.2.2.1.length≤1000
def res_shade_Was (d:Int×Int×(List (Int×Int))×Int):SV:=.tup [.agg [.val (.i .i64) ((wasSp d.1 d.2.1 d.2.2.1 d.2.2.2).1),.val (.i .i64) ((wasSp d.1 d.2.1 d.2.2.1 d.2.2.2).2)],.val (.i .i64) (wasErr d.1 d.2.1 d.2.2.1 d.2.2.2)]
def obs_shade_Was (d:Int×Int×(List (Int×Int))×Int):List OB:=[]
def s_shade_Was:CSp:=mkSp al_shade_Was pre_shade_Was res_shade_Was obs_shade_Was
def vc_shade_Was (g:Int) (s:Int) (l:List (Int×Int)) (ei:Int):Prop :=
 ∀ w1:List Value,([g].length≤1000000)∧((!(!([g].any fun n=>decide (n<(1:Int))||decide ((1000000:Int)<n))))=true →
  ((!(!([g].any fun n=>decide (n<(1:Int))||decide ((1000000:Int)<n))))=true →
   w1=w1∧(((2:Int) != (0:Int))=true →
    ((((0:Int)=((wasSp g s l ei).1)∧(0:Int)=((wasSp g s l ei).2)∧(([]:List SV)=[]))∧(2:Int)=(wasErr g s l ei)∧(([]:List SV)=[]))∧(True))) ∧
   (((2:Int) != (0:Int))=false →
    (bookOk (0:Int) (0:Int) ([]:List (Int×Int)))∧((decide ((wrongI (0:Int) (0:Int) ([]:List (Int×Int)))≥(0:Int)))=true →
     ((((0:Int)=((wasSp g s l ei).1)∧(0:Int)=((wasSp g s l ei).2)∧(([]:List SV)=[]))∧(90:Int)=(wasErr g s l ei)∧(([]:List SV)=[]))∧(True))) ∧
    ((decide ((wrongI (0:Int) (0:Int) ([]:List (Int×Int)))≥(0:Int)))=false →
     (I64 ((lI l)-(1:Int)))∧([ei].length≤1000000)∧((!(!([ei].any fun n=>decide (n<(0:Int))||decide (((lI l)-(1:Int))<n))))=true →
      ((((0:Int)=((wasSp g s l ei).1)∧(0:Int)=((wasSp g s l ei).2)∧(([]:List SV)=[]))∧(7:Int)=(wasErr g s l ei)∧(([]:List SV)=[]))∧(True))) ∧
     ((!(!([ei].any fun n=>decide (n<(0:Int))||decide (((lI l)-(1:Int))<n))))=false →
      (True)∧(I64 (ei+(1:Int)))∧(0≤(ei+(1:Int)))∧((ei+(1:Int))≤(lI l))∧((lI l)≤(List.length l))∧∀ w2:List Value,w2=w2∧(List.length (List.take (Int.toNat ((lI l)-(ei+(1:Int)))) (List.drop (Int.toNat (ei+(1:Int))) l))<4611686018427387904)∧∃ (e3:Unit) (d30:Int×Int),((l=l∧ei=ei∧True∧True∧True∧True∧True)∧(((0:Int)=(0:Int)∧(0:Int)=(0:Int)∧(([]:List SV)=[]))∧((0:Int)=g∧(0:Int)=s∧l=[]∧(([]:List SV)=[]))∧((forthW (0:Int) (0:Int) ([]:List (Int×Int)))=(forthW g s l)∧false=false)∧((0:Int)=d30.1∧(1099511627776:Int)=d30.2∧(([]:List SV)=[]))∧True)) ∧
      RangeP (List.length (List.take (Int.toNat ((lI l)-(ei+(1:Int)))) (List.drop (Int.toNat (ei+(1:Int))) l))) (fun (k3:Nat) (d3:Int×Int) (q3:(Int×Int)→Prop)=>∀ w3:List Value,
       (0≤s∧s≤1000∧0≤((List.getD (List.take (Int.toNat ((lI l)-(ei+(1:Int)))) (List.drop (Int.toNat (ei+(1:Int))) l)) (List.length (List.take (Int.toNat ((lI l)-(ei+(1:Int)))) (List.drop (Int.toNat (ei+(1:Int))) l))-1-k3) (0,0)).2)∧((List.getD (List.take (Int.toNat ((lI l)-(ei+(1:Int)))) (List.drop (Int.toNat (ei+(1:Int))) l)) (List.length (List.take (Int.toNat ((lI l)-(ei+(1:Int)))) (List.drop (Int.toNat (ei+(1:Int))) l))-1-k3) (0,0)).2)≤12000000∧-2000000000000≤d3.1∧d3.1≤2000000000000∧-2000000000000≤d3.2∧d3.2≤2000000000000)∧w3=w3∧(∃ d4:Int×Int,((l=l∧ei=ei∧True∧True∧True∧True∧True)∧(((0:Int)=(0:Int)∧(0:Int)=(0:Int)∧(([]:List SV)=[]))∧(g=g∧s=s∧l=l∧(([]:List SV)=[]))∧((forthW g s l)=(forthW g s l)∧false=false)∧(((beforeB s (d3.1,d3.2) (((List.getD (List.take (Int.toNat ((lI l)-(ei+(1:Int)))) (List.drop (Int.toNat (ei+(1:Int))) l)) (List.length (List.take (Int.toNat ((lI l)-(ei+(1:Int)))) (List.drop (Int.toNat (ei+(1:Int))) l))-1-k3) (0,0)).1),((List.getD (List.take (Int.toNat ((lI l)-(ei+(1:Int)))) (List.drop (Int.toNat (ei+(1:Int))) l)) (List.length (List.take (Int.toNat ((lI l)-(ei+(1:Int)))) (List.drop (Int.toNat (ei+(1:Int))) l))-1-k3) (0,0)).2))).1)=d4.1∧((beforeB s (d3.1,d3.2) (((List.getD (List.take (Int.toNat ((lI l)-(ei+(1:Int)))) (List.drop (Int.toNat (ei+(1:Int))) l)) (List.length (List.take (Int.toNat ((lI l)-(ei+(1:Int)))) (List.drop (Int.toNat (ei+(1:Int))) l))-1-k3) (0,0)).1),((List.getD (List.take (Int.toNat ((lI l)-(ei+(1:Int)))) (List.drop (Int.toNat (ei+(1:Int))) l)) (List.length (List.take (Int.toNat ((lI l)-(ei+(1:Int)))) (List.drop (Int.toNat (ei+(1:Int))) l))-1-k3) (0,0)).2))).2)=d4.2∧(([]:List SV)=[]))∧True))∧q3 d4))
      (fun (d5:Int×Int) =>
       (0≤ei)∧(ei<(List.length (forthW g s l)))∧(0≤ei)∧(ei<(List.length l))∧((True∧True∧True∧True∧True∧((gD l ei (0,0)).1=(gD l ei (0,0)).1∧(gD l ei (0,0)).2=(gD l ei (0,0)).2∧(([]:List SV)=[]))∧True)∧(((0:Int)=(0:Int)∧(0:Int)=(0:Int)∧(([]:List SV)=[]))∧(g=g∧s=s∧l=l∧(([]:List SV)=[]))∧(d5.1=d5.1∧d5.2=d5.2∧(([]:List SV)=[]))∧((gD (forthW g s l) ei (0,0)).1=(gD (forthW g s l) ei (0,0)).1∧(gD (forthW g s l) ei (0,0)).2=(gD (forthW g s l) ei (0,0)).2∧(([]:List SV)=[]))∧((0:Int)=(0:Int)∧(0:Int)=(0:Int)∧(([]:List SV)=[]))∧((forthW g s l)=(forthW g s l)∧false=false)∧True))∧((0≤ei)∧(ei<(List.length (forthW g s l)))∧(0≤ei)∧(ei<(List.length l))∧((True∧True∧True∧True∧True∧((gD l ei (0,0)).1=(gD l ei (0,0)).1∧(gD l ei (0,0)).2=(gD l ei (0,0)).2∧(([]:List SV)=[]))∧True)∧(((0:Int)=(0:Int)∧(0:Int)=(0:Int)∧(([]:List SV)=[]))∧(g=g∧s=s∧l=l∧(([]:List SV)=[]))∧(d5.1=d5.1∧d5.2=d5.2∧(([]:List SV)=[]))∧((gD (forthW g s l) ei (0,0)).1=(gD (forthW g s l) ei (0,0)).1∧(gD (forthW g s l) ei (0,0)).2=(gD (forthW g s l) ei (0,0)).2∧(([]:List SV)=[]))∧((0:Int)=(0:Int)∧(0:Int)=(0:Int)∧(([]:List SV)=[]))∧((forthW g s l)=(forthW g s l)∧false=false)∧True)))∧(((gD l ei (0,0)).1==(1:Int))=true →
        (I64 ((gD (forthW g s l) ei (0,0)).1-d5.2))∧(I64 ((gD (forthW g s l) ei (0,0)).2-d5.1))∧(0≤s∧s≤1000∧0≤((gD l ei (0,0)).2)∧((gD l ei (0,0)).2)≤12000000)∧(True)∧((((gmax ((gD (forthW g s l) ei (0,0)).1-d5.2) ((realB s (((gD l ei (0,0)).1),((gD l ei (0,0)).2))).1))=((wasSp g s l ei).1)∧(gmin ((gD (forthW g s l) ei (0,0)).2-d5.1) ((realB s (((gD l ei (0,0)).1),((gD l ei (0,0)).2))).2))=((wasSp g s l ei).2)∧(([]:List SV)=[]))∧(0:Int)=(wasErr g s l ei)∧(([]:List SV)=[]))∧(True))) ∧
       (((gD l ei (0,0)).1==(1:Int))=false →
        (((gD l ei (0,0)).1==(2:Int))=true →
         (I64 (d5.1-(gD (forthW g s l) ei (0,0)).2))∧(I64 (d5.2-(gD (forthW g s l) ei (0,0)).1))∧(0≤s∧s≤1000∧0≤((gD l ei (0,0)).2)∧((gD l ei (0,0)).2)≤12000000)∧(True)∧((((gmax (d5.1-(gD (forthW g s l) ei (0,0)).2) ((realB s (((gD l ei (0,0)).1),((gD l ei (0,0)).2))).1))=((wasSp g s l ei).1)∧(gmin (d5.2-(gD (forthW g s l) ei (0,0)).1) ((realB s (((gD l ei (0,0)).1),((gD l ei (0,0)).2))).2))=((wasSp g s l ei).2)∧(([]:List SV)=[]))∧(0:Int)=(wasErr g s l ei)∧(([]:List SV)=[]))∧(True))) ∧
        (((gD l ei (0,0)).1==(2:Int))=false →
         (True)∧(0≤s∧s≤1000∧0≤((gD l ei (0,0)).2)∧((gD l ei (0,0)).2)≤12000000)∧(True)∧((((gmax (gmax ((gD (forthW g s l) ei (0,0)).1) d5.1) ((realB s (((gD l ei (0,0)).1),((gD l ei (0,0)).2))).1))=((wasSp g s l ei).1)∧(gmin (gmin ((gD (forthW g s l) ei (0,0)).2) d5.2) ((realB s (((gD l ei (0,0)).1),((gD l ei (0,0)).2))).2))=((wasSp g s l ei).2)∧(([]:List SV)=[]))∧(0:Int)=(wasErr g s l ei)∧(([]:List SV)=[]))∧(True))))) d30)))) ∧
  ((!(!([g].any fun n=>decide (n<(1:Int))||decide ((1000000:Int)<n))))=false →
   ((decide ((lI l) > (40:Int)))=true →
    w1=w1∧(((5:Int) != (0:Int))=true →
     ((((0:Int)=((wasSp g s l ei).1)∧(0:Int)=((wasSp g s l ei).2)∧(([]:List SV)=[]))∧(5:Int)=(wasErr g s l ei)∧(([]:List SV)=[]))∧(True))) ∧
    (((5:Int) != (0:Int))=false →
     (bookOk (0:Int) (0:Int) ([]:List (Int×Int)))∧((decide ((wrongI (0:Int) (0:Int) ([]:List (Int×Int)))≥(0:Int)))=true →
      ((((0:Int)=((wasSp g s l ei).1)∧(0:Int)=((wasSp g s l ei).2)∧(([]:List SV)=[]))∧(90:Int)=(wasErr g s l ei)∧(([]:List SV)=[]))∧(True))) ∧
     ((decide ((wrongI (0:Int) (0:Int) ([]:List (Int×Int)))≥(0:Int)))=false →
      (I64 ((lI l)-(1:Int)))∧([ei].length≤1000000)∧((!(!([ei].any fun n=>decide (n<(0:Int))||decide (((lI l)-(1:Int))<n))))=true →
       ((((0:Int)=((wasSp g s l ei).1)∧(0:Int)=((wasSp g s l ei).2)∧(([]:List SV)=[]))∧(7:Int)=(wasErr g s l ei)∧(([]:List SV)=[]))∧(True))) ∧
      ((!(!([ei].any fun n=>decide (n<(0:Int))||decide (((lI l)-(1:Int))<n))))=false →
       (True)∧(I64 (ei+(1:Int)))∧(0≤(ei+(1:Int)))∧((ei+(1:Int))≤(lI l))∧((lI l)≤(List.length l))∧∀ w6:List Value,w6=w6∧(List.length (List.take (Int.toNat ((lI l)-(ei+(1:Int)))) (List.drop (Int.toNat (ei+(1:Int))) l))<4611686018427387904)∧∃ (e7:Unit) (d70:Int×Int),((l=l∧ei=ei∧True∧True∧True∧True∧True)∧(((0:Int)=(0:Int)∧(0:Int)=(0:Int)∧(([]:List SV)=[]))∧((0:Int)=g∧(0:Int)=s∧l=[]∧(([]:List SV)=[]))∧((forthW (0:Int) (0:Int) ([]:List (Int×Int)))=(forthW g s l)∧false=false)∧((0:Int)=d70.1∧(1099511627776:Int)=d70.2∧(([]:List SV)=[]))∧True)) ∧
       RangeP (List.length (List.take (Int.toNat ((lI l)-(ei+(1:Int)))) (List.drop (Int.toNat (ei+(1:Int))) l))) (fun (k7:Nat) (d7:Int×Int) (q7:(Int×Int)→Prop)=>∀ w7:List Value,
        (0≤s∧s≤1000∧0≤((List.getD (List.take (Int.toNat ((lI l)-(ei+(1:Int)))) (List.drop (Int.toNat (ei+(1:Int))) l)) (List.length (List.take (Int.toNat ((lI l)-(ei+(1:Int)))) (List.drop (Int.toNat (ei+(1:Int))) l))-1-k7) (0,0)).2)∧((List.getD (List.take (Int.toNat ((lI l)-(ei+(1:Int)))) (List.drop (Int.toNat (ei+(1:Int))) l)) (List.length (List.take (Int.toNat ((lI l)-(ei+(1:Int)))) (List.drop (Int.toNat (ei+(1:Int))) l))-1-k7) (0,0)).2)≤12000000∧-2000000000000≤d7.1∧d7.1≤2000000000000∧-2000000000000≤d7.2∧d7.2≤2000000000000)∧w7=w7∧(∃ d8:Int×Int,((l=l∧ei=ei∧True∧True∧True∧True∧True)∧(((0:Int)=(0:Int)∧(0:Int)=(0:Int)∧(([]:List SV)=[]))∧(g=g∧s=s∧l=l∧(([]:List SV)=[]))∧((forthW g s l)=(forthW g s l)∧false=false)∧(((beforeB s (d7.1,d7.2) (((List.getD (List.take (Int.toNat ((lI l)-(ei+(1:Int)))) (List.drop (Int.toNat (ei+(1:Int))) l)) (List.length (List.take (Int.toNat ((lI l)-(ei+(1:Int)))) (List.drop (Int.toNat (ei+(1:Int))) l))-1-k7) (0,0)).1),((List.getD (List.take (Int.toNat ((lI l)-(ei+(1:Int)))) (List.drop (Int.toNat (ei+(1:Int))) l)) (List.length (List.take (Int.toNat ((lI l)-(ei+(1:Int)))) (List.drop (Int.toNat (ei+(1:Int))) l))-1-k7) (0,0)).2))).1)=d8.1∧((beforeB s (d7.1,d7.2) (((List.getD (List.take (Int.toNat ((lI l)-(ei+(1:Int)))) (List.drop (Int.toNat (ei+(1:Int))) l)) (List.length (List.take (Int.toNat ((lI l)-(ei+(1:Int)))) (List.drop (Int.toNat (ei+(1:Int))) l))-1-k7) (0,0)).1),((List.getD (List.take (Int.toNat ((lI l)-(ei+(1:Int)))) (List.drop (Int.toNat (ei+(1:Int))) l)) (List.length (List.take (Int.toNat ((lI l)-(ei+(1:Int)))) (List.drop (Int.toNat (ei+(1:Int))) l))-1-k7) (0,0)).2))).2)=d8.2∧(([]:List SV)=[]))∧True))∧q7 d8))
       (fun (d9:Int×Int) =>
        (0≤ei)∧(ei<(List.length (forthW g s l)))∧(0≤ei)∧(ei<(List.length l))∧((True∧True∧True∧True∧True∧((gD l ei (0,0)).1=(gD l ei (0,0)).1∧(gD l ei (0,0)).2=(gD l ei (0,0)).2∧(([]:List SV)=[]))∧True)∧(((0:Int)=(0:Int)∧(0:Int)=(0:Int)∧(([]:List SV)=[]))∧(g=g∧s=s∧l=l∧(([]:List SV)=[]))∧(d9.1=d9.1∧d9.2=d9.2∧(([]:List SV)=[]))∧((gD (forthW g s l) ei (0,0)).1=(gD (forthW g s l) ei (0,0)).1∧(gD (forthW g s l) ei (0,0)).2=(gD (forthW g s l) ei (0,0)).2∧(([]:List SV)=[]))∧((0:Int)=(0:Int)∧(0:Int)=(0:Int)∧(([]:List SV)=[]))∧((forthW g s l)=(forthW g s l)∧false=false)∧True))∧((0≤ei)∧(ei<(List.length (forthW g s l)))∧(0≤ei)∧(ei<(List.length l))∧((True∧True∧True∧True∧True∧((gD l ei (0,0)).1=(gD l ei (0,0)).1∧(gD l ei (0,0)).2=(gD l ei (0,0)).2∧(([]:List SV)=[]))∧True)∧(((0:Int)=(0:Int)∧(0:Int)=(0:Int)∧(([]:List SV)=[]))∧(g=g∧s=s∧l=l∧(([]:List SV)=[]))∧(d9.1=d9.1∧d9.2=d9.2∧(([]:List SV)=[]))∧((gD (forthW g s l) ei (0,0)).1=(gD (forthW g s l) ei (0,0)).1∧(gD (forthW g s l) ei (0,0)).2=(gD (forthW g s l) ei (0,0)).2∧(([]:List SV)=[]))∧((0:Int)=(0:Int)∧(0:Int)=(0:Int)∧(([]:List SV)=[]))∧((forthW g s l)=(forthW g s l)∧false=false)∧True)))∧(((gD l ei (0,0)).1==(1:Int))=true →
         (I64 ((gD (forthW g s l) ei (0,0)).1-d9.2))∧(I64 ((gD (forthW g s l) ei (0,0)).2-d9.1))∧(0≤s∧s≤1000∧0≤((gD l ei (0,0)).2)∧((gD l ei (0,0)).2)≤12000000)∧(True)∧((((gmax ((gD (forthW g s l) ei (0,0)).1-d9.2) ((realB s (((gD l ei (0,0)).1),((gD l ei (0,0)).2))).1))=((wasSp g s l ei).1)∧(gmin ((gD (forthW g s l) ei (0,0)).2-d9.1) ((realB s (((gD l ei (0,0)).1),((gD l ei (0,0)).2))).2))=((wasSp g s l ei).2)∧(([]:List SV)=[]))∧(0:Int)=(wasErr g s l ei)∧(([]:List SV)=[]))∧(True))) ∧
        (((gD l ei (0,0)).1==(1:Int))=false →
         (((gD l ei (0,0)).1==(2:Int))=true →
          (I64 (d9.1-(gD (forthW g s l) ei (0,0)).2))∧(I64 (d9.2-(gD (forthW g s l) ei (0,0)).1))∧(0≤s∧s≤1000∧0≤((gD l ei (0,0)).2)∧((gD l ei (0,0)).2)≤12000000)∧(True)∧((((gmax (d9.1-(gD (forthW g s l) ei (0,0)).2) ((realB s (((gD l ei (0,0)).1),((gD l ei (0,0)).2))).1))=((wasSp g s l ei).1)∧(gmin (d9.2-(gD (forthW g s l) ei (0,0)).1) ((realB s (((gD l ei (0,0)).1),((gD l ei (0,0)).2))).2))=((wasSp g s l ei).2)∧(([]:List SV)=[]))∧(0:Int)=(wasErr g s l ei)∧(([]:List SV)=[]))∧(True))) ∧
         (((gD l ei (0,0)).1==(2:Int))=false →
          (True)∧(0≤s∧s≤1000∧0≤((gD l ei (0,0)).2)∧((gD l ei (0,0)).2)≤12000000)∧(True)∧((((gmax (gmax ((gD (forthW g s l) ei (0,0)).1) d9.1) ((realB s (((gD l ei (0,0)).1),((gD l ei (0,0)).2))).1))=((wasSp g s l ei).1)∧(gmin (gmin ((gD (forthW g s l) ei (0,0)).2) d9.2) ((realB s (((gD l ei (0,0)).1),((gD l ei (0,0)).2))).2))=((wasSp g s l ei).2)∧(([]:List SV)=[]))∧(0:Int)=(wasErr g s l ei)∧(([]:List SV)=[]))∧(True))))) d70)))) ∧
   ((decide ((lI l) > (40:Int)))=false →
    (l.length≤1000000∧∀ x∈l,(fun (x1:Int×Int)=>True) x)∧((l.any (fun (x1:Int×Int)=>(!inI x1.1 1 3||!inI x1.2 0 12000000)))=true →
     w1=w1∧(((2:Int) != (0:Int))=true →
      ((((0:Int)=((wasSp g s l ei).1)∧(0:Int)=((wasSp g s l ei).2)∧(([]:List SV)=[]))∧(2:Int)=(wasErr g s l ei)∧(([]:List SV)=[]))∧(True))) ∧
     (((2:Int) != (0:Int))=false →
      (bookOk (0:Int) (0:Int) ([]:List (Int×Int)))∧((decide ((wrongI (0:Int) (0:Int) ([]:List (Int×Int)))≥(0:Int)))=true →
       ((((0:Int)=((wasSp g s l ei).1)∧(0:Int)=((wasSp g s l ei).2)∧(([]:List SV)=[]))∧(90:Int)=(wasErr g s l ei)∧(([]:List SV)=[]))∧(True))) ∧
      ((decide ((wrongI (0:Int) (0:Int) ([]:List (Int×Int)))≥(0:Int)))=false →
       (I64 ((lI l)-(1:Int)))∧([ei].length≤1000000)∧((!(!([ei].any fun n=>decide (n<(0:Int))||decide (((lI l)-(1:Int))<n))))=true →
        ((((0:Int)=((wasSp g s l ei).1)∧(0:Int)=((wasSp g s l ei).2)∧(([]:List SV)=[]))∧(7:Int)=(wasErr g s l ei)∧(([]:List SV)=[]))∧(True))) ∧
       ((!(!([ei].any fun n=>decide (n<(0:Int))||decide (((lI l)-(1:Int))<n))))=false →
        (True)∧(I64 (ei+(1:Int)))∧(0≤(ei+(1:Int)))∧((ei+(1:Int))≤(lI l))∧((lI l)≤(List.length l))∧∀ w10:List Value,w10=w10∧(List.length (List.take (Int.toNat ((lI l)-(ei+(1:Int)))) (List.drop (Int.toNat (ei+(1:Int))) l))<4611686018427387904)∧∃ (e11:Unit) (d110:Int×Int),((l=l∧ei=ei∧True∧True∧True∧True∧True)∧(((0:Int)=(0:Int)∧(0:Int)=(0:Int)∧(([]:List SV)=[]))∧((0:Int)=g∧(0:Int)=s∧l=[]∧(([]:List SV)=[]))∧((forthW (0:Int) (0:Int) ([]:List (Int×Int)))=(forthW g s l)∧false=false)∧((0:Int)=d110.1∧(1099511627776:Int)=d110.2∧(([]:List SV)=[]))∧True)) ∧
        RangeP (List.length (List.take (Int.toNat ((lI l)-(ei+(1:Int)))) (List.drop (Int.toNat (ei+(1:Int))) l))) (fun (k11:Nat) (d11:Int×Int) (q11:(Int×Int)→Prop)=>∀ w11:List Value,
         (0≤s∧s≤1000∧0≤((List.getD (List.take (Int.toNat ((lI l)-(ei+(1:Int)))) (List.drop (Int.toNat (ei+(1:Int))) l)) (List.length (List.take (Int.toNat ((lI l)-(ei+(1:Int)))) (List.drop (Int.toNat (ei+(1:Int))) l))-1-k11) (0,0)).2)∧((List.getD (List.take (Int.toNat ((lI l)-(ei+(1:Int)))) (List.drop (Int.toNat (ei+(1:Int))) l)) (List.length (List.take (Int.toNat ((lI l)-(ei+(1:Int)))) (List.drop (Int.toNat (ei+(1:Int))) l))-1-k11) (0,0)).2)≤12000000∧-2000000000000≤d11.1∧d11.1≤2000000000000∧-2000000000000≤d11.2∧d11.2≤2000000000000)∧w11=w11∧(∃ d12:Int×Int,((l=l∧ei=ei∧True∧True∧True∧True∧True)∧(((0:Int)=(0:Int)∧(0:Int)=(0:Int)∧(([]:List SV)=[]))∧(g=g∧s=s∧l=l∧(([]:List SV)=[]))∧((forthW g s l)=(forthW g s l)∧false=false)∧(((beforeB s (d11.1,d11.2) (((List.getD (List.take (Int.toNat ((lI l)-(ei+(1:Int)))) (List.drop (Int.toNat (ei+(1:Int))) l)) (List.length (List.take (Int.toNat ((lI l)-(ei+(1:Int)))) (List.drop (Int.toNat (ei+(1:Int))) l))-1-k11) (0,0)).1),((List.getD (List.take (Int.toNat ((lI l)-(ei+(1:Int)))) (List.drop (Int.toNat (ei+(1:Int))) l)) (List.length (List.take (Int.toNat ((lI l)-(ei+(1:Int)))) (List.drop (Int.toNat (ei+(1:Int))) l))-1-k11) (0,0)).2))).1)=d12.1∧((beforeB s (d11.1,d11.2) (((List.getD (List.take (Int.toNat ((lI l)-(ei+(1:Int)))) (List.drop (Int.toNat (ei+(1:Int))) l)) (List.length (List.take (Int.toNat ((lI l)-(ei+(1:Int)))) (List.drop (Int.toNat (ei+(1:Int))) l))-1-k11) (0,0)).1),((List.getD (List.take (Int.toNat ((lI l)-(ei+(1:Int)))) (List.drop (Int.toNat (ei+(1:Int))) l)) (List.length (List.take (Int.toNat ((lI l)-(ei+(1:Int)))) (List.drop (Int.toNat (ei+(1:Int))) l))-1-k11) (0,0)).2))).2)=d12.2∧(([]:List SV)=[]))∧True))∧q11 d12))
        (fun (d13:Int×Int) =>
         (0≤ei)∧(ei<(List.length (forthW g s l)))∧(0≤ei)∧(ei<(List.length l))∧((True∧True∧True∧True∧True∧((gD l ei (0,0)).1=(gD l ei (0,0)).1∧(gD l ei (0,0)).2=(gD l ei (0,0)).2∧(([]:List SV)=[]))∧True)∧(((0:Int)=(0:Int)∧(0:Int)=(0:Int)∧(([]:List SV)=[]))∧(g=g∧s=s∧l=l∧(([]:List SV)=[]))∧(d13.1=d13.1∧d13.2=d13.2∧(([]:List SV)=[]))∧((gD (forthW g s l) ei (0,0)).1=(gD (forthW g s l) ei (0,0)).1∧(gD (forthW g s l) ei (0,0)).2=(gD (forthW g s l) ei (0,0)).2∧(([]:List SV)=[]))∧((0:Int)=(0:Int)∧(0:Int)=(0:Int)∧(([]:List SV)=[]))∧((forthW g s l)=(forthW g s l)∧false=false)∧True))∧((0≤ei)∧(ei<(List.length (forthW g s l)))∧(0≤ei)∧(ei<(List.length l))∧((True∧True∧True∧True∧True∧((gD l ei (0,0)).1=(gD l ei (0,0)).1∧(gD l ei (0,0)).2=(gD l ei (0,0)).2∧(([]:List SV)=[]))∧True)∧(((0:Int)=(0:Int)∧(0:Int)=(0:Int)∧(([]:List SV)=[]))∧(g=g∧s=s∧l=l∧(([]:List SV)=[]))∧(d13.1=d13.1∧d13.2=d13.2∧(([]:List SV)=[]))∧((gD (forthW g s l) ei (0,0)).1=(gD (forthW g s l) ei (0,0)).1∧(gD (forthW g s l) ei (0,0)).2=(gD (forthW g s l) ei (0,0)).2∧(([]:List SV)=[]))∧((0:Int)=(0:Int)∧(0:Int)=(0:Int)∧(([]:List SV)=[]))∧((forthW g s l)=(forthW g s l)∧false=false)∧True)))∧(((gD l ei (0,0)).1==(1:Int))=true →
          (I64 ((gD (forthW g s l) ei (0,0)).1-d13.2))∧(I64 ((gD (forthW g s l) ei (0,0)).2-d13.1))∧(0≤s∧s≤1000∧0≤((gD l ei (0,0)).2)∧((gD l ei (0,0)).2)≤12000000)∧(True)∧((((gmax ((gD (forthW g s l) ei (0,0)).1-d13.2) ((realB s (((gD l ei (0,0)).1),((gD l ei (0,0)).2))).1))=((wasSp g s l ei).1)∧(gmin ((gD (forthW g s l) ei (0,0)).2-d13.1) ((realB s (((gD l ei (0,0)).1),((gD l ei (0,0)).2))).2))=((wasSp g s l ei).2)∧(([]:List SV)=[]))∧(0:Int)=(wasErr g s l ei)∧(([]:List SV)=[]))∧(True))) ∧
         (((gD l ei (0,0)).1==(1:Int))=false →
          (((gD l ei (0,0)).1==(2:Int))=true →
           (I64 (d13.1-(gD (forthW g s l) ei (0,0)).2))∧(I64 (d13.2-(gD (forthW g s l) ei (0,0)).1))∧(0≤s∧s≤1000∧0≤((gD l ei (0,0)).2)∧((gD l ei (0,0)).2)≤12000000)∧(True)∧((((gmax (d13.1-(gD (forthW g s l) ei (0,0)).2) ((realB s (((gD l ei (0,0)).1),((gD l ei (0,0)).2))).1))=((wasSp g s l ei).1)∧(gmin (d13.2-(gD (forthW g s l) ei (0,0)).1) ((realB s (((gD l ei (0,0)).1),((gD l ei (0,0)).2))).2))=((wasSp g s l ei).2)∧(([]:List SV)=[]))∧(0:Int)=(wasErr g s l ei)∧(([]:List SV)=[]))∧(True))) ∧
          (((gD l ei (0,0)).1==(2:Int))=false →
           (True)∧(0≤s∧s≤1000∧0≤((gD l ei (0,0)).2)∧((gD l ei (0,0)).2)≤12000000)∧(True)∧((((gmax (gmax ((gD (forthW g s l) ei (0,0)).1) d13.1) ((realB s (((gD l ei (0,0)).1),((gD l ei (0,0)).2))).1))=((wasSp g s l ei).1)∧(gmin (gmin ((gD (forthW g s l) ei (0,0)).2) d13.2) ((realB s (((gD l ei (0,0)).1),((gD l ei (0,0)).2))).2))=((wasSp g s l ei).2)∧(([]:List SV)=[]))∧(0:Int)=(wasErr g s l ei)∧(([]:List SV)=[]))∧(True))))) d110)))) ∧
    ((l.any (fun (x1:Int×Int)=>(!inI x1.1 1 3||!inI x1.2 0 12000000)))=false →
     w1=w1∧(((0:Int) != (0:Int))=true →
      ((((0:Int)=((wasSp g s l ei).1)∧(0:Int)=((wasSp g s l ei).2)∧(([]:List SV)=[]))∧(0:Int)=(wasErr g s l ei)∧(([]:List SV)=[]))∧(True))) ∧
     (((0:Int) != (0:Int))=false →
      (bookOk g s l)∧((decide ((wrongI g s l)≥(0:Int)))=true →
       ((((0:Int)=((wasSp g s l ei).1)∧(0:Int)=((wasSp g s l ei).2)∧(([]:List SV)=[]))∧(90:Int)=(wasErr g s l ei)∧(([]:List SV)=[]))∧(True))) ∧
      ((decide ((wrongI g s l)≥(0:Int)))=false →
       (I64 ((lI l)-(1:Int)))∧([ei].length≤1000000)∧((!(!([ei].any fun n=>decide (n<(0:Int))||decide (((lI l)-(1:Int))<n))))=true →
        ((((0:Int)=((wasSp g s l ei).1)∧(0:Int)=((wasSp g s l ei).2)∧(([]:List SV)=[]))∧(7:Int)=(wasErr g s l ei)∧(([]:List SV)=[]))∧(True))) ∧
       ((!(!([ei].any fun n=>decide (n<(0:Int))||decide (((lI l)-(1:Int))<n))))=false →
        (True)∧(I64 (ei+(1:Int)))∧(0≤(ei+(1:Int)))∧((ei+(1:Int))≤(lI l))∧((lI l)≤(List.length l))∧∀ w14:List Value,w14=w14∧(List.length (List.take (Int.toNat ((lI l)-(ei+(1:Int)))) (List.drop (Int.toNat (ei+(1:Int))) l))<4611686018427387904)∧∃ (e17:Unit) (d170:Int×Int),((l=l∧ei=ei∧True∧True∧True∧True∧True)∧(((0:Int)=(0:Int)∧(0:Int)=(0:Int)∧(([]:List SV)=[]))∧(g=g∧s=s∧l=l∧(([]:List SV)=[]))∧((forthW g s l)=(forthW g s l)∧false=false)∧((0:Int)=d170.1∧(1099511627776:Int)=d170.2∧(([]:List SV)=[]))∧True)) ∧
        RangeP (List.length (List.take (Int.toNat ((lI l)-(ei+(1:Int)))) (List.drop (Int.toNat (ei+(1:Int))) l))) (fun (k17:Nat) (d17:Int×Int) (q17:(Int×Int)→Prop)=>∀ w17:List Value,
         (0≤s∧s≤1000∧0≤((List.getD (List.take (Int.toNat ((lI l)-(ei+(1:Int)))) (List.drop (Int.toNat (ei+(1:Int))) l)) (List.length (List.take (Int.toNat ((lI l)-(ei+(1:Int)))) (List.drop (Int.toNat (ei+(1:Int))) l))-1-k17) (0,0)).2)∧((List.getD (List.take (Int.toNat ((lI l)-(ei+(1:Int)))) (List.drop (Int.toNat (ei+(1:Int))) l)) (List.length (List.take (Int.toNat ((lI l)-(ei+(1:Int)))) (List.drop (Int.toNat (ei+(1:Int))) l))-1-k17) (0,0)).2)≤12000000∧-2000000000000≤d17.1∧d17.1≤2000000000000∧-2000000000000≤d17.2∧d17.2≤2000000000000)∧w17=w17∧(∃ d18:Int×Int,((l=l∧ei=ei∧True∧True∧True∧True∧True)∧(((0:Int)=(0:Int)∧(0:Int)=(0:Int)∧(([]:List SV)=[]))∧(g=g∧s=s∧l=l∧(([]:List SV)=[]))∧((forthW g s l)=(forthW g s l)∧false=false)∧(((beforeB s (d17.1,d17.2) (((List.getD (List.take (Int.toNat ((lI l)-(ei+(1:Int)))) (List.drop (Int.toNat (ei+(1:Int))) l)) (List.length (List.take (Int.toNat ((lI l)-(ei+(1:Int)))) (List.drop (Int.toNat (ei+(1:Int))) l))-1-k17) (0,0)).1),((List.getD (List.take (Int.toNat ((lI l)-(ei+(1:Int)))) (List.drop (Int.toNat (ei+(1:Int))) l)) (List.length (List.take (Int.toNat ((lI l)-(ei+(1:Int)))) (List.drop (Int.toNat (ei+(1:Int))) l))-1-k17) (0,0)).2))).1)=d18.1∧((beforeB s (d17.1,d17.2) (((List.getD (List.take (Int.toNat ((lI l)-(ei+(1:Int)))) (List.drop (Int.toNat (ei+(1:Int))) l)) (List.length (List.take (Int.toNat ((lI l)-(ei+(1:Int)))) (List.drop (Int.toNat (ei+(1:Int))) l))-1-k17) (0,0)).1),((List.getD (List.take (Int.toNat ((lI l)-(ei+(1:Int)))) (List.drop (Int.toNat (ei+(1:Int))) l)) (List.length (List.take (Int.toNat ((lI l)-(ei+(1:Int)))) (List.drop (Int.toNat (ei+(1:Int))) l))-1-k17) (0,0)).2))).2)=d18.2∧(([]:List SV)=[]))∧True))∧q17 d18))
        (fun (d19:Int×Int) =>
         (0≤ei)∧(ei<(List.length (forthW g s l)))∧(0≤ei)∧(ei<(List.length l))∧((True∧True∧True∧True∧True∧((gD l ei (0,0)).1=(gD l ei (0,0)).1∧(gD l ei (0,0)).2=(gD l ei (0,0)).2∧(([]:List SV)=[]))∧True)∧(((0:Int)=(0:Int)∧(0:Int)=(0:Int)∧(([]:List SV)=[]))∧(g=g∧s=s∧l=l∧(([]:List SV)=[]))∧(d19.1=d19.1∧d19.2=d19.2∧(([]:List SV)=[]))∧((gD (forthW g s l) ei (0,0)).1=(gD (forthW g s l) ei (0,0)).1∧(gD (forthW g s l) ei (0,0)).2=(gD (forthW g s l) ei (0,0)).2∧(([]:List SV)=[]))∧((0:Int)=(0:Int)∧(0:Int)=(0:Int)∧(([]:List SV)=[]))∧((forthW g s l)=(forthW g s l)∧false=false)∧True))∧((0≤ei)∧(ei<(List.length (forthW g s l)))∧(0≤ei)∧(ei<(List.length l))∧((True∧True∧True∧True∧True∧((gD l ei (0,0)).1=(gD l ei (0,0)).1∧(gD l ei (0,0)).2=(gD l ei (0,0)).2∧(([]:List SV)=[]))∧True)∧(((0:Int)=(0:Int)∧(0:Int)=(0:Int)∧(([]:List SV)=[]))∧(g=g∧s=s∧l=l∧(([]:List SV)=[]))∧(d19.1=d19.1∧d19.2=d19.2∧(([]:List SV)=[]))∧((gD (forthW g s l) ei (0,0)).1=(gD (forthW g s l) ei (0,0)).1∧(gD (forthW g s l) ei (0,0)).2=(gD (forthW g s l) ei (0,0)).2∧(([]:List SV)=[]))∧((0:Int)=(0:Int)∧(0:Int)=(0:Int)∧(([]:List SV)=[]))∧((forthW g s l)=(forthW g s l)∧false=false)∧True)))∧(((gD l ei (0,0)).1==(1:Int))=true →
          (I64 ((gD (forthW g s l) ei (0,0)).1-d19.2))∧(I64 ((gD (forthW g s l) ei (0,0)).2-d19.1))∧(0≤s∧s≤1000∧0≤((gD l ei (0,0)).2)∧((gD l ei (0,0)).2)≤12000000)∧(True)∧((((gmax ((gD (forthW g s l) ei (0,0)).1-d19.2) ((realB s (((gD l ei (0,0)).1),((gD l ei (0,0)).2))).1))=((wasSp g s l ei).1)∧(gmin ((gD (forthW g s l) ei (0,0)).2-d19.1) ((realB s (((gD l ei (0,0)).1),((gD l ei (0,0)).2))).2))=((wasSp g s l ei).2)∧(([]:List SV)=[]))∧(0:Int)=(wasErr g s l ei)∧(([]:List SV)=[]))∧(True))) ∧
         (((gD l ei (0,0)).1==(1:Int))=false →
          (((gD l ei (0,0)).1==(2:Int))=true →
           (I64 (d19.1-(gD (forthW g s l) ei (0,0)).2))∧(I64 (d19.2-(gD (forthW g s l) ei (0,0)).1))∧(0≤s∧s≤1000∧0≤((gD l ei (0,0)).2)∧((gD l ei (0,0)).2)≤12000000)∧(True)∧((((gmax (d19.1-(gD (forthW g s l) ei (0,0)).2) ((realB s (((gD l ei (0,0)).1),((gD l ei (0,0)).2))).1))=((wasSp g s l ei).1)∧(gmin (d19.2-(gD (forthW g s l) ei (0,0)).1) ((realB s (((gD l ei (0,0)).1),((gD l ei (0,0)).2))).2))=((wasSp g s l ei).2)∧(([]:List SV)=[]))∧(0:Int)=(wasErr g s l ei)∧(([]:List SV)=[]))∧(True))) ∧
          (((gD l ei (0,0)).1==(2:Int))=false →
           (True)∧(0≤s∧s≤1000∧0≤((gD l ei (0,0)).2)∧((gD l ei (0,0)).2)≤12000000)∧(True)∧((((gmax (gmax ((gD (forthW g s l) ei (0,0)).1) d19.1) ((realB s (((gD l ei (0,0)).1),((gD l ei (0,0)).2))).1))=((wasSp g s l ei).1)∧(gmin (gmin ((gD (forthW g s l) ei (0,0)).2) d19.2) ((realB s (((gD l ei (0,0)).1),((gD l ei (0,0)).2))).2))=((wasSp g s l ei).2)∧(([]:List SV)=[]))∧(0:Int)=(wasErr g s l ei)∧(([]:List SV)=[]))∧(True))))) d170))))))) ∧
 ((!(!([g].any fun n=>decide (n<(1:Int))||decide ((1000000:Int)<n))))=false →
  ([s].length≤1000000)∧((!(!([s].any fun n=>decide (n<(0:Int))||decide ((1000:Int)<n))))=true →
   w1=w1∧(((2:Int) != (0:Int))=true →
    ((((0:Int)=((wasSp g s l ei).1)∧(0:Int)=((wasSp g s l ei).2)∧(([]:List SV)=[]))∧(2:Int)=(wasErr g s l ei)∧(([]:List SV)=[]))∧(True))) ∧
   (((2:Int) != (0:Int))=false →
    (bookOk (0:Int) (0:Int) ([]:List (Int×Int)))∧((decide ((wrongI (0:Int) (0:Int) ([]:List (Int×Int)))≥(0:Int)))=true →
     ((((0:Int)=((wasSp g s l ei).1)∧(0:Int)=((wasSp g s l ei).2)∧(([]:List SV)=[]))∧(90:Int)=(wasErr g s l ei)∧(([]:List SV)=[]))∧(True))) ∧
    ((decide ((wrongI (0:Int) (0:Int) ([]:List (Int×Int)))≥(0:Int)))=false →
     (I64 ((lI l)-(1:Int)))∧([ei].length≤1000000)∧((!(!([ei].any fun n=>decide (n<(0:Int))||decide (((lI l)-(1:Int))<n))))=true →
      ((((0:Int)=((wasSp g s l ei).1)∧(0:Int)=((wasSp g s l ei).2)∧(([]:List SV)=[]))∧(7:Int)=(wasErr g s l ei)∧(([]:List SV)=[]))∧(True))) ∧
     ((!(!([ei].any fun n=>decide (n<(0:Int))||decide (((lI l)-(1:Int))<n))))=false →
      (True)∧(I64 (ei+(1:Int)))∧(0≤(ei+(1:Int)))∧((ei+(1:Int))≤(lI l))∧((lI l)≤(List.length l))∧∀ w20:List Value,w20=w20∧(List.length (List.take (Int.toNat ((lI l)-(ei+(1:Int)))) (List.drop (Int.toNat (ei+(1:Int))) l))<4611686018427387904)∧∃ (e21:Unit) (d210:Int×Int),((l=l∧ei=ei∧True∧True∧True∧True∧True)∧(((0:Int)=(0:Int)∧(0:Int)=(0:Int)∧(([]:List SV)=[]))∧((0:Int)=g∧(0:Int)=s∧l=[]∧(([]:List SV)=[]))∧((forthW (0:Int) (0:Int) ([]:List (Int×Int)))=(forthW g s l)∧false=false)∧((0:Int)=d210.1∧(1099511627776:Int)=d210.2∧(([]:List SV)=[]))∧True)) ∧
      RangeP (List.length (List.take (Int.toNat ((lI l)-(ei+(1:Int)))) (List.drop (Int.toNat (ei+(1:Int))) l))) (fun (k21:Nat) (d21:Int×Int) (q21:(Int×Int)→Prop)=>∀ w21:List Value,
       (0≤s∧s≤1000∧0≤((List.getD (List.take (Int.toNat ((lI l)-(ei+(1:Int)))) (List.drop (Int.toNat (ei+(1:Int))) l)) (List.length (List.take (Int.toNat ((lI l)-(ei+(1:Int)))) (List.drop (Int.toNat (ei+(1:Int))) l))-1-k21) (0,0)).2)∧((List.getD (List.take (Int.toNat ((lI l)-(ei+(1:Int)))) (List.drop (Int.toNat (ei+(1:Int))) l)) (List.length (List.take (Int.toNat ((lI l)-(ei+(1:Int)))) (List.drop (Int.toNat (ei+(1:Int))) l))-1-k21) (0,0)).2)≤12000000∧-2000000000000≤d21.1∧d21.1≤2000000000000∧-2000000000000≤d21.2∧d21.2≤2000000000000)∧w21=w21∧(∃ d22:Int×Int,((l=l∧ei=ei∧True∧True∧True∧True∧True)∧(((0:Int)=(0:Int)∧(0:Int)=(0:Int)∧(([]:List SV)=[]))∧(g=g∧s=s∧l=l∧(([]:List SV)=[]))∧((forthW g s l)=(forthW g s l)∧false=false)∧(((beforeB s (d21.1,d21.2) (((List.getD (List.take (Int.toNat ((lI l)-(ei+(1:Int)))) (List.drop (Int.toNat (ei+(1:Int))) l)) (List.length (List.take (Int.toNat ((lI l)-(ei+(1:Int)))) (List.drop (Int.toNat (ei+(1:Int))) l))-1-k21) (0,0)).1),((List.getD (List.take (Int.toNat ((lI l)-(ei+(1:Int)))) (List.drop (Int.toNat (ei+(1:Int))) l)) (List.length (List.take (Int.toNat ((lI l)-(ei+(1:Int)))) (List.drop (Int.toNat (ei+(1:Int))) l))-1-k21) (0,0)).2))).1)=d22.1∧((beforeB s (d21.1,d21.2) (((List.getD (List.take (Int.toNat ((lI l)-(ei+(1:Int)))) (List.drop (Int.toNat (ei+(1:Int))) l)) (List.length (List.take (Int.toNat ((lI l)-(ei+(1:Int)))) (List.drop (Int.toNat (ei+(1:Int))) l))-1-k21) (0,0)).1),((List.getD (List.take (Int.toNat ((lI l)-(ei+(1:Int)))) (List.drop (Int.toNat (ei+(1:Int))) l)) (List.length (List.take (Int.toNat ((lI l)-(ei+(1:Int)))) (List.drop (Int.toNat (ei+(1:Int))) l))-1-k21) (0,0)).2))).2)=d22.2∧(([]:List SV)=[]))∧True))∧q21 d22))
      (fun (d23:Int×Int) =>
       (0≤ei)∧(ei<(List.length (forthW g s l)))∧(0≤ei)∧(ei<(List.length l))∧((True∧True∧True∧True∧True∧((gD l ei (0,0)).1=(gD l ei (0,0)).1∧(gD l ei (0,0)).2=(gD l ei (0,0)).2∧(([]:List SV)=[]))∧True)∧(((0:Int)=(0:Int)∧(0:Int)=(0:Int)∧(([]:List SV)=[]))∧(g=g∧s=s∧l=l∧(([]:List SV)=[]))∧(d23.1=d23.1∧d23.2=d23.2∧(([]:List SV)=[]))∧((gD (forthW g s l) ei (0,0)).1=(gD (forthW g s l) ei (0,0)).1∧(gD (forthW g s l) ei (0,0)).2=(gD (forthW g s l) ei (0,0)).2∧(([]:List SV)=[]))∧((0:Int)=(0:Int)∧(0:Int)=(0:Int)∧(([]:List SV)=[]))∧((forthW g s l)=(forthW g s l)∧false=false)∧True))∧((0≤ei)∧(ei<(List.length (forthW g s l)))∧(0≤ei)∧(ei<(List.length l))∧((True∧True∧True∧True∧True∧((gD l ei (0,0)).1=(gD l ei (0,0)).1∧(gD l ei (0,0)).2=(gD l ei (0,0)).2∧(([]:List SV)=[]))∧True)∧(((0:Int)=(0:Int)∧(0:Int)=(0:Int)∧(([]:List SV)=[]))∧(g=g∧s=s∧l=l∧(([]:List SV)=[]))∧(d23.1=d23.1∧d23.2=d23.2∧(([]:List SV)=[]))∧((gD (forthW g s l) ei (0,0)).1=(gD (forthW g s l) ei (0,0)).1∧(gD (forthW g s l) ei (0,0)).2=(gD (forthW g s l) ei (0,0)).2∧(([]:List SV)=[]))∧((0:Int)=(0:Int)∧(0:Int)=(0:Int)∧(([]:List SV)=[]))∧((forthW g s l)=(forthW g s l)∧false=false)∧True)))∧(((gD l ei (0,0)).1==(1:Int))=true →
        (I64 ((gD (forthW g s l) ei (0,0)).1-d23.2))∧(I64 ((gD (forthW g s l) ei (0,0)).2-d23.1))∧(0≤s∧s≤1000∧0≤((gD l ei (0,0)).2)∧((gD l ei (0,0)).2)≤12000000)∧(True)∧((((gmax ((gD (forthW g s l) ei (0,0)).1-d23.2) ((realB s (((gD l ei (0,0)).1),((gD l ei (0,0)).2))).1))=((wasSp g s l ei).1)∧(gmin ((gD (forthW g s l) ei (0,0)).2-d23.1) ((realB s (((gD l ei (0,0)).1),((gD l ei (0,0)).2))).2))=((wasSp g s l ei).2)∧(([]:List SV)=[]))∧(0:Int)=(wasErr g s l ei)∧(([]:List SV)=[]))∧(True))) ∧
       (((gD l ei (0,0)).1==(1:Int))=false →
        (((gD l ei (0,0)).1==(2:Int))=true →
         (I64 (d23.1-(gD (forthW g s l) ei (0,0)).2))∧(I64 (d23.2-(gD (forthW g s l) ei (0,0)).1))∧(0≤s∧s≤1000∧0≤((gD l ei (0,0)).2)∧((gD l ei (0,0)).2)≤12000000)∧(True)∧((((gmax (d23.1-(gD (forthW g s l) ei (0,0)).2) ((realB s (((gD l ei (0,0)).1),((gD l ei (0,0)).2))).1))=((wasSp g s l ei).1)∧(gmin (d23.2-(gD (forthW g s l) ei (0,0)).1) ((realB s (((gD l ei (0,0)).1),((gD l ei (0,0)).2))).2))=((wasSp g s l ei).2)∧(([]:List SV)=[]))∧(0:Int)=(wasErr g s l ei)∧(([]:List SV)=[]))∧(True))) ∧
        (((gD l ei (0,0)).1==(2:Int))=false →
         (True)∧(0≤s∧s≤1000∧0≤((gD l ei (0,0)).2)∧((gD l ei (0,0)).2)≤12000000)∧(True)∧((((gmax (gmax ((gD (forthW g s l) ei (0,0)).1) d23.1) ((realB s (((gD l ei (0,0)).1),((gD l ei (0,0)).2))).1))=((wasSp g s l ei).1)∧(gmin (gmin ((gD (forthW g s l) ei (0,0)).2) d23.2) ((realB s (((gD l ei (0,0)).1),((gD l ei (0,0)).2))).2))=((wasSp g s l ei).2)∧(([]:List SV)=[]))∧(0:Int)=(wasErr g s l ei)∧(([]:List SV)=[]))∧(True))))) d210)))) ∧
  ((!(!([s].any fun n=>decide (n<(0:Int))||decide ((1000:Int)<n))))=false →
   ((decide ((lI l) > (40:Int)))=true →
    w1=w1∧(((5:Int) != (0:Int))=true →
     ((((0:Int)=((wasSp g s l ei).1)∧(0:Int)=((wasSp g s l ei).2)∧(([]:List SV)=[]))∧(5:Int)=(wasErr g s l ei)∧(([]:List SV)=[]))∧(True))) ∧
    (((5:Int) != (0:Int))=false →
     (bookOk (0:Int) (0:Int) ([]:List (Int×Int)))∧((decide ((wrongI (0:Int) (0:Int) ([]:List (Int×Int)))≥(0:Int)))=true →
      ((((0:Int)=((wasSp g s l ei).1)∧(0:Int)=((wasSp g s l ei).2)∧(([]:List SV)=[]))∧(90:Int)=(wasErr g s l ei)∧(([]:List SV)=[]))∧(True))) ∧
     ((decide ((wrongI (0:Int) (0:Int) ([]:List (Int×Int)))≥(0:Int)))=false →
      (I64 ((lI l)-(1:Int)))∧([ei].length≤1000000)∧((!(!([ei].any fun n=>decide (n<(0:Int))||decide (((lI l)-(1:Int))<n))))=true →
       ((((0:Int)=((wasSp g s l ei).1)∧(0:Int)=((wasSp g s l ei).2)∧(([]:List SV)=[]))∧(7:Int)=(wasErr g s l ei)∧(([]:List SV)=[]))∧(True))) ∧
      ((!(!([ei].any fun n=>decide (n<(0:Int))||decide (((lI l)-(1:Int))<n))))=false →
       (True)∧(I64 (ei+(1:Int)))∧(0≤(ei+(1:Int)))∧((ei+(1:Int))≤(lI l))∧((lI l)≤(List.length l))∧∀ w24:List Value,w24=w24∧(List.length (List.take (Int.toNat ((lI l)-(ei+(1:Int)))) (List.drop (Int.toNat (ei+(1:Int))) l))<4611686018427387904)∧∃ (e25:Unit) (d250:Int×Int),((l=l∧ei=ei∧True∧True∧True∧True∧True)∧(((0:Int)=(0:Int)∧(0:Int)=(0:Int)∧(([]:List SV)=[]))∧((0:Int)=g∧(0:Int)=s∧l=[]∧(([]:List SV)=[]))∧((forthW (0:Int) (0:Int) ([]:List (Int×Int)))=(forthW g s l)∧false=false)∧((0:Int)=d250.1∧(1099511627776:Int)=d250.2∧(([]:List SV)=[]))∧True)) ∧
       RangeP (List.length (List.take (Int.toNat ((lI l)-(ei+(1:Int)))) (List.drop (Int.toNat (ei+(1:Int))) l))) (fun (k25:Nat) (d25:Int×Int) (q25:(Int×Int)→Prop)=>∀ w25:List Value,
        (0≤s∧s≤1000∧0≤((List.getD (List.take (Int.toNat ((lI l)-(ei+(1:Int)))) (List.drop (Int.toNat (ei+(1:Int))) l)) (List.length (List.take (Int.toNat ((lI l)-(ei+(1:Int)))) (List.drop (Int.toNat (ei+(1:Int))) l))-1-k25) (0,0)).2)∧((List.getD (List.take (Int.toNat ((lI l)-(ei+(1:Int)))) (List.drop (Int.toNat (ei+(1:Int))) l)) (List.length (List.take (Int.toNat ((lI l)-(ei+(1:Int)))) (List.drop (Int.toNat (ei+(1:Int))) l))-1-k25) (0,0)).2)≤12000000∧-2000000000000≤d25.1∧d25.1≤2000000000000∧-2000000000000≤d25.2∧d25.2≤2000000000000)∧w25=w25∧(∃ d26:Int×Int,((l=l∧ei=ei∧True∧True∧True∧True∧True)∧(((0:Int)=(0:Int)∧(0:Int)=(0:Int)∧(([]:List SV)=[]))∧(g=g∧s=s∧l=l∧(([]:List SV)=[]))∧((forthW g s l)=(forthW g s l)∧false=false)∧(((beforeB s (d25.1,d25.2) (((List.getD (List.take (Int.toNat ((lI l)-(ei+(1:Int)))) (List.drop (Int.toNat (ei+(1:Int))) l)) (List.length (List.take (Int.toNat ((lI l)-(ei+(1:Int)))) (List.drop (Int.toNat (ei+(1:Int))) l))-1-k25) (0,0)).1),((List.getD (List.take (Int.toNat ((lI l)-(ei+(1:Int)))) (List.drop (Int.toNat (ei+(1:Int))) l)) (List.length (List.take (Int.toNat ((lI l)-(ei+(1:Int)))) (List.drop (Int.toNat (ei+(1:Int))) l))-1-k25) (0,0)).2))).1)=d26.1∧((beforeB s (d25.1,d25.2) (((List.getD (List.take (Int.toNat ((lI l)-(ei+(1:Int)))) (List.drop (Int.toNat (ei+(1:Int))) l)) (List.length (List.take (Int.toNat ((lI l)-(ei+(1:Int)))) (List.drop (Int.toNat (ei+(1:Int))) l))-1-k25) (0,0)).1),((List.getD (List.take (Int.toNat ((lI l)-(ei+(1:Int)))) (List.drop (Int.toNat (ei+(1:Int))) l)) (List.length (List.take (Int.toNat ((lI l)-(ei+(1:Int)))) (List.drop (Int.toNat (ei+(1:Int))) l))-1-k25) (0,0)).2))).2)=d26.2∧(([]:List SV)=[]))∧True))∧q25 d26))
       (fun (d27:Int×Int) =>
        (0≤ei)∧(ei<(List.length (forthW g s l)))∧(0≤ei)∧(ei<(List.length l))∧((True∧True∧True∧True∧True∧((gD l ei (0,0)).1=(gD l ei (0,0)).1∧(gD l ei (0,0)).2=(gD l ei (0,0)).2∧(([]:List SV)=[]))∧True)∧(((0:Int)=(0:Int)∧(0:Int)=(0:Int)∧(([]:List SV)=[]))∧(g=g∧s=s∧l=l∧(([]:List SV)=[]))∧(d27.1=d27.1∧d27.2=d27.2∧(([]:List SV)=[]))∧((gD (forthW g s l) ei (0,0)).1=(gD (forthW g s l) ei (0,0)).1∧(gD (forthW g s l) ei (0,0)).2=(gD (forthW g s l) ei (0,0)).2∧(([]:List SV)=[]))∧((0:Int)=(0:Int)∧(0:Int)=(0:Int)∧(([]:List SV)=[]))∧((forthW g s l)=(forthW g s l)∧false=false)∧True))∧((0≤ei)∧(ei<(List.length (forthW g s l)))∧(0≤ei)∧(ei<(List.length l))∧((True∧True∧True∧True∧True∧((gD l ei (0,0)).1=(gD l ei (0,0)).1∧(gD l ei (0,0)).2=(gD l ei (0,0)).2∧(([]:List SV)=[]))∧True)∧(((0:Int)=(0:Int)∧(0:Int)=(0:Int)∧(([]:List SV)=[]))∧(g=g∧s=s∧l=l∧(([]:List SV)=[]))∧(d27.1=d27.1∧d27.2=d27.2∧(([]:List SV)=[]))∧((gD (forthW g s l) ei (0,0)).1=(gD (forthW g s l) ei (0,0)).1∧(gD (forthW g s l) ei (0,0)).2=(gD (forthW g s l) ei (0,0)).2∧(([]:List SV)=[]))∧((0:Int)=(0:Int)∧(0:Int)=(0:Int)∧(([]:List SV)=[]))∧((forthW g s l)=(forthW g s l)∧false=false)∧True)))∧(((gD l ei (0,0)).1==(1:Int))=true →
         (I64 ((gD (forthW g s l) ei (0,0)).1-d27.2))∧(I64 ((gD (forthW g s l) ei (0,0)).2-d27.1))∧(0≤s∧s≤1000∧0≤((gD l ei (0,0)).2)∧((gD l ei (0,0)).2)≤12000000)∧(True)∧((((gmax ((gD (forthW g s l) ei (0,0)).1-d27.2) ((realB s (((gD l ei (0,0)).1),((gD l ei (0,0)).2))).1))=((wasSp g s l ei).1)∧(gmin ((gD (forthW g s l) ei (0,0)).2-d27.1) ((realB s (((gD l ei (0,0)).1),((gD l ei (0,0)).2))).2))=((wasSp g s l ei).2)∧(([]:List SV)=[]))∧(0:Int)=(wasErr g s l ei)∧(([]:List SV)=[]))∧(True))) ∧
        (((gD l ei (0,0)).1==(1:Int))=false →
         (((gD l ei (0,0)).1==(2:Int))=true →
          (I64 (d27.1-(gD (forthW g s l) ei (0,0)).2))∧(I64 (d27.2-(gD (forthW g s l) ei (0,0)).1))∧(0≤s∧s≤1000∧0≤((gD l ei (0,0)).2)∧((gD l ei (0,0)).2)≤12000000)∧(True)∧((((gmax (d27.1-(gD (forthW g s l) ei (0,0)).2) ((realB s (((gD l ei (0,0)).1),((gD l ei (0,0)).2))).1))=((wasSp g s l ei).1)∧(gmin (d27.2-(gD (forthW g s l) ei (0,0)).1) ((realB s (((gD l ei (0,0)).1),((gD l ei (0,0)).2))).2))=((wasSp g s l ei).2)∧(([]:List SV)=[]))∧(0:Int)=(wasErr g s l ei)∧(([]:List SV)=[]))∧(True))) ∧
         (((gD l ei (0,0)).1==(2:Int))=false →
          (True)∧(0≤s∧s≤1000∧0≤((gD l ei (0,0)).2)∧((gD l ei (0,0)).2)≤12000000)∧(True)∧((((gmax (gmax ((gD (forthW g s l) ei (0,0)).1) d27.1) ((realB s (((gD l ei (0,0)).1),((gD l ei (0,0)).2))).1))=((wasSp g s l ei).1)∧(gmin (gmin ((gD (forthW g s l) ei (0,0)).2) d27.2) ((realB s (((gD l ei (0,0)).1),((gD l ei (0,0)).2))).2))=((wasSp g s l ei).2)∧(([]:List SV)=[]))∧(0:Int)=(wasErr g s l ei)∧(([]:List SV)=[]))∧(True))))) d250)))) ∧
   ((decide ((lI l) > (40:Int)))=false →
    (l.length≤1000000∧∀ x∈l,(fun (x2:Int×Int)=>True) x)∧((l.any (fun (x2:Int×Int)=>(!inI x2.1 1 3||!inI x2.2 0 12000000)))=true →
     w1=w1∧(((2:Int) != (0:Int))=true →
      ((((0:Int)=((wasSp g s l ei).1)∧(0:Int)=((wasSp g s l ei).2)∧(([]:List SV)=[]))∧(2:Int)=(wasErr g s l ei)∧(([]:List SV)=[]))∧(True))) ∧
     (((2:Int) != (0:Int))=false →
      (bookOk (0:Int) (0:Int) ([]:List (Int×Int)))∧((decide ((wrongI (0:Int) (0:Int) ([]:List (Int×Int)))≥(0:Int)))=true →
       ((((0:Int)=((wasSp g s l ei).1)∧(0:Int)=((wasSp g s l ei).2)∧(([]:List SV)=[]))∧(90:Int)=(wasErr g s l ei)∧(([]:List SV)=[]))∧(True))) ∧
      ((decide ((wrongI (0:Int) (0:Int) ([]:List (Int×Int)))≥(0:Int)))=false →
       (I64 ((lI l)-(1:Int)))∧([ei].length≤1000000)∧((!(!([ei].any fun n=>decide (n<(0:Int))||decide (((lI l)-(1:Int))<n))))=true →
        ((((0:Int)=((wasSp g s l ei).1)∧(0:Int)=((wasSp g s l ei).2)∧(([]:List SV)=[]))∧(7:Int)=(wasErr g s l ei)∧(([]:List SV)=[]))∧(True))) ∧
       ((!(!([ei].any fun n=>decide (n<(0:Int))||decide (((lI l)-(1:Int))<n))))=false →
        (True)∧(I64 (ei+(1:Int)))∧(0≤(ei+(1:Int)))∧((ei+(1:Int))≤(lI l))∧((lI l)≤(List.length l))∧∀ w28:List Value,w28=w28∧(List.length (List.take (Int.toNat ((lI l)-(ei+(1:Int)))) (List.drop (Int.toNat (ei+(1:Int))) l))<4611686018427387904)∧∃ (e29:Unit) (d290:Int×Int),((l=l∧ei=ei∧True∧True∧True∧True∧True)∧(((0:Int)=(0:Int)∧(0:Int)=(0:Int)∧(([]:List SV)=[]))∧((0:Int)=g∧(0:Int)=s∧l=[]∧(([]:List SV)=[]))∧((forthW (0:Int) (0:Int) ([]:List (Int×Int)))=(forthW g s l)∧false=false)∧((0:Int)=d290.1∧(1099511627776:Int)=d290.2∧(([]:List SV)=[]))∧True)) ∧
        RangeP (List.length (List.take (Int.toNat ((lI l)-(ei+(1:Int)))) (List.drop (Int.toNat (ei+(1:Int))) l))) (fun (k29:Nat) (d29:Int×Int) (q29:(Int×Int)→Prop)=>∀ w29:List Value,
         (0≤s∧s≤1000∧0≤((List.getD (List.take (Int.toNat ((lI l)-(ei+(1:Int)))) (List.drop (Int.toNat (ei+(1:Int))) l)) (List.length (List.take (Int.toNat ((lI l)-(ei+(1:Int)))) (List.drop (Int.toNat (ei+(1:Int))) l))-1-k29) (0,0)).2)∧((List.getD (List.take (Int.toNat ((lI l)-(ei+(1:Int)))) (List.drop (Int.toNat (ei+(1:Int))) l)) (List.length (List.take (Int.toNat ((lI l)-(ei+(1:Int)))) (List.drop (Int.toNat (ei+(1:Int))) l))-1-k29) (0,0)).2)≤12000000∧-2000000000000≤d29.1∧d29.1≤2000000000000∧-2000000000000≤d29.2∧d29.2≤2000000000000)∧w29=w29∧(∃ d30:Int×Int,((l=l∧ei=ei∧True∧True∧True∧True∧True)∧(((0:Int)=(0:Int)∧(0:Int)=(0:Int)∧(([]:List SV)=[]))∧(g=g∧s=s∧l=l∧(([]:List SV)=[]))∧((forthW g s l)=(forthW g s l)∧false=false)∧(((beforeB s (d29.1,d29.2) (((List.getD (List.take (Int.toNat ((lI l)-(ei+(1:Int)))) (List.drop (Int.toNat (ei+(1:Int))) l)) (List.length (List.take (Int.toNat ((lI l)-(ei+(1:Int)))) (List.drop (Int.toNat (ei+(1:Int))) l))-1-k29) (0,0)).1),((List.getD (List.take (Int.toNat ((lI l)-(ei+(1:Int)))) (List.drop (Int.toNat (ei+(1:Int))) l)) (List.length (List.take (Int.toNat ((lI l)-(ei+(1:Int)))) (List.drop (Int.toNat (ei+(1:Int))) l))-1-k29) (0,0)).2))).1)=d30.1∧((beforeB s (d29.1,d29.2) (((List.getD (List.take (Int.toNat ((lI l)-(ei+(1:Int)))) (List.drop (Int.toNat (ei+(1:Int))) l)) (List.length (List.take (Int.toNat ((lI l)-(ei+(1:Int)))) (List.drop (Int.toNat (ei+(1:Int))) l))-1-k29) (0,0)).1),((List.getD (List.take (Int.toNat ((lI l)-(ei+(1:Int)))) (List.drop (Int.toNat (ei+(1:Int))) l)) (List.length (List.take (Int.toNat ((lI l)-(ei+(1:Int)))) (List.drop (Int.toNat (ei+(1:Int))) l))-1-k29) (0,0)).2))).2)=d30.2∧(([]:List SV)=[]))∧True))∧q29 d30))
        (fun (d31:Int×Int) =>
         (0≤ei)∧(ei<(List.length (forthW g s l)))∧(0≤ei)∧(ei<(List.length l))∧((True∧True∧True∧True∧True∧((gD l ei (0,0)).1=(gD l ei (0,0)).1∧(gD l ei (0,0)).2=(gD l ei (0,0)).2∧(([]:List SV)=[]))∧True)∧(((0:Int)=(0:Int)∧(0:Int)=(0:Int)∧(([]:List SV)=[]))∧(g=g∧s=s∧l=l∧(([]:List SV)=[]))∧(d31.1=d31.1∧d31.2=d31.2∧(([]:List SV)=[]))∧((gD (forthW g s l) ei (0,0)).1=(gD (forthW g s l) ei (0,0)).1∧(gD (forthW g s l) ei (0,0)).2=(gD (forthW g s l) ei (0,0)).2∧(([]:List SV)=[]))∧((0:Int)=(0:Int)∧(0:Int)=(0:Int)∧(([]:List SV)=[]))∧((forthW g s l)=(forthW g s l)∧false=false)∧True))∧((0≤ei)∧(ei<(List.length (forthW g s l)))∧(0≤ei)∧(ei<(List.length l))∧((True∧True∧True∧True∧True∧((gD l ei (0,0)).1=(gD l ei (0,0)).1∧(gD l ei (0,0)).2=(gD l ei (0,0)).2∧(([]:List SV)=[]))∧True)∧(((0:Int)=(0:Int)∧(0:Int)=(0:Int)∧(([]:List SV)=[]))∧(g=g∧s=s∧l=l∧(([]:List SV)=[]))∧(d31.1=d31.1∧d31.2=d31.2∧(([]:List SV)=[]))∧((gD (forthW g s l) ei (0,0)).1=(gD (forthW g s l) ei (0,0)).1∧(gD (forthW g s l) ei (0,0)).2=(gD (forthW g s l) ei (0,0)).2∧(([]:List SV)=[]))∧((0:Int)=(0:Int)∧(0:Int)=(0:Int)∧(([]:List SV)=[]))∧((forthW g s l)=(forthW g s l)∧false=false)∧True)))∧(((gD l ei (0,0)).1==(1:Int))=true →
          (I64 ((gD (forthW g s l) ei (0,0)).1-d31.2))∧(I64 ((gD (forthW g s l) ei (0,0)).2-d31.1))∧(0≤s∧s≤1000∧0≤((gD l ei (0,0)).2)∧((gD l ei (0,0)).2)≤12000000)∧(True)∧((((gmax ((gD (forthW g s l) ei (0,0)).1-d31.2) ((realB s (((gD l ei (0,0)).1),((gD l ei (0,0)).2))).1))=((wasSp g s l ei).1)∧(gmin ((gD (forthW g s l) ei (0,0)).2-d31.1) ((realB s (((gD l ei (0,0)).1),((gD l ei (0,0)).2))).2))=((wasSp g s l ei).2)∧(([]:List SV)=[]))∧(0:Int)=(wasErr g s l ei)∧(([]:List SV)=[]))∧(True))) ∧
         (((gD l ei (0,0)).1==(1:Int))=false →
          (((gD l ei (0,0)).1==(2:Int))=true →
           (I64 (d31.1-(gD (forthW g s l) ei (0,0)).2))∧(I64 (d31.2-(gD (forthW g s l) ei (0,0)).1))∧(0≤s∧s≤1000∧0≤((gD l ei (0,0)).2)∧((gD l ei (0,0)).2)≤12000000)∧(True)∧((((gmax (d31.1-(gD (forthW g s l) ei (0,0)).2) ((realB s (((gD l ei (0,0)).1),((gD l ei (0,0)).2))).1))=((wasSp g s l ei).1)∧(gmin (d31.2-(gD (forthW g s l) ei (0,0)).1) ((realB s (((gD l ei (0,0)).1),((gD l ei (0,0)).2))).2))=((wasSp g s l ei).2)∧(([]:List SV)=[]))∧(0:Int)=(wasErr g s l ei)∧(([]:List SV)=[]))∧(True))) ∧
          (((gD l ei (0,0)).1==(2:Int))=false →
           (True)∧(0≤s∧s≤1000∧0≤((gD l ei (0,0)).2)∧((gD l ei (0,0)).2)≤12000000)∧(True)∧((((gmax (gmax ((gD (forthW g s l) ei (0,0)).1) d31.1) ((realB s (((gD l ei (0,0)).1),((gD l ei (0,0)).2))).1))=((wasSp g s l ei).1)∧(gmin (gmin ((gD (forthW g s l) ei (0,0)).2) d31.2) ((realB s (((gD l ei (0,0)).1),((gD l ei (0,0)).2))).2))=((wasSp g s l ei).2)∧(([]:List SV)=[]))∧(0:Int)=(wasErr g s l ei)∧(([]:List SV)=[]))∧(True))))) d290)))) ∧
    ((l.any (fun (x2:Int×Int)=>(!inI x2.1 1 3||!inI x2.2 0 12000000)))=false →
     w1=w1∧(((0:Int) != (0:Int))=true →
      ((((0:Int)=((wasSp g s l ei).1)∧(0:Int)=((wasSp g s l ei).2)∧(([]:List SV)=[]))∧(0:Int)=(wasErr g s l ei)∧(([]:List SV)=[]))∧(True))) ∧
     (((0:Int) != (0:Int))=false →
      (bookOk g s l)∧((decide ((wrongI g s l)≥(0:Int)))=true →
       ((((0:Int)=((wasSp g s l ei).1)∧(0:Int)=((wasSp g s l ei).2)∧(([]:List SV)=[]))∧(90:Int)=(wasErr g s l ei)∧(([]:List SV)=[]))∧(True))) ∧
      ((decide ((wrongI g s l)≥(0:Int)))=false →
       (I64 ((lI l)-(1:Int)))∧([ei].length≤1000000)∧((!(!([ei].any fun n=>decide (n<(0:Int))||decide (((lI l)-(1:Int))<n))))=true →
        ((((0:Int)=((wasSp g s l ei).1)∧(0:Int)=((wasSp g s l ei).2)∧(([]:List SV)=[]))∧(7:Int)=(wasErr g s l ei)∧(([]:List SV)=[]))∧(True))) ∧
       ((!(!([ei].any fun n=>decide (n<(0:Int))||decide (((lI l)-(1:Int))<n))))=false →
        (True)∧(I64 (ei+(1:Int)))∧(0≤(ei+(1:Int)))∧((ei+(1:Int))≤(lI l))∧((lI l)≤(List.length l))∧∀ w32:List Value,w32=w32∧(List.length (List.take (Int.toNat ((lI l)-(ei+(1:Int)))) (List.drop (Int.toNat (ei+(1:Int))) l))<4611686018427387904)∧∃ (e35:Unit) (d350:Int×Int),((l=l∧ei=ei∧True∧True∧True∧True∧True)∧(((0:Int)=(0:Int)∧(0:Int)=(0:Int)∧(([]:List SV)=[]))∧(g=g∧s=s∧l=l∧(([]:List SV)=[]))∧((forthW g s l)=(forthW g s l)∧false=false)∧((0:Int)=d350.1∧(1099511627776:Int)=d350.2∧(([]:List SV)=[]))∧True)) ∧
        RangeP (List.length (List.take (Int.toNat ((lI l)-(ei+(1:Int)))) (List.drop (Int.toNat (ei+(1:Int))) l))) (fun (k35:Nat) (d35:Int×Int) (q35:(Int×Int)→Prop)=>∀ w35:List Value,
         (0≤s∧s≤1000∧0≤((List.getD (List.take (Int.toNat ((lI l)-(ei+(1:Int)))) (List.drop (Int.toNat (ei+(1:Int))) l)) (List.length (List.take (Int.toNat ((lI l)-(ei+(1:Int)))) (List.drop (Int.toNat (ei+(1:Int))) l))-1-k35) (0,0)).2)∧((List.getD (List.take (Int.toNat ((lI l)-(ei+(1:Int)))) (List.drop (Int.toNat (ei+(1:Int))) l)) (List.length (List.take (Int.toNat ((lI l)-(ei+(1:Int)))) (List.drop (Int.toNat (ei+(1:Int))) l))-1-k35) (0,0)).2)≤12000000∧-2000000000000≤d35.1∧d35.1≤2000000000000∧-2000000000000≤d35.2∧d35.2≤2000000000000)∧w35=w35∧(∃ d36:Int×Int,((l=l∧ei=ei∧True∧True∧True∧True∧True)∧(((0:Int)=(0:Int)∧(0:Int)=(0:Int)∧(([]:List SV)=[]))∧(g=g∧s=s∧l=l∧(([]:List SV)=[]))∧((forthW g s l)=(forthW g s l)∧false=false)∧(((beforeB s (d35.1,d35.2) (((List.getD (List.take (Int.toNat ((lI l)-(ei+(1:Int)))) (List.drop (Int.toNat (ei+(1:Int))) l)) (List.length (List.take (Int.toNat ((lI l)-(ei+(1:Int)))) (List.drop (Int.toNat (ei+(1:Int))) l))-1-k35) (0,0)).1),((List.getD (List.take (Int.toNat ((lI l)-(ei+(1:Int)))) (List.drop (Int.toNat (ei+(1:Int))) l)) (List.length (List.take (Int.toNat ((lI l)-(ei+(1:Int)))) (List.drop (Int.toNat (ei+(1:Int))) l))-1-k35) (0,0)).2))).1)=d36.1∧((beforeB s (d35.1,d35.2) (((List.getD (List.take (Int.toNat ((lI l)-(ei+(1:Int)))) (List.drop (Int.toNat (ei+(1:Int))) l)) (List.length (List.take (Int.toNat ((lI l)-(ei+(1:Int)))) (List.drop (Int.toNat (ei+(1:Int))) l))-1-k35) (0,0)).1),((List.getD (List.take (Int.toNat ((lI l)-(ei+(1:Int)))) (List.drop (Int.toNat (ei+(1:Int))) l)) (List.length (List.take (Int.toNat ((lI l)-(ei+(1:Int)))) (List.drop (Int.toNat (ei+(1:Int))) l))-1-k35) (0,0)).2))).2)=d36.2∧(([]:List SV)=[]))∧True))∧q35 d36))
        (fun (d37:Int×Int) =>
         (0≤ei)∧(ei<(List.length (forthW g s l)))∧(0≤ei)∧(ei<(List.length l))∧((True∧True∧True∧True∧True∧((gD l ei (0,0)).1=(gD l ei (0,0)).1∧(gD l ei (0,0)).2=(gD l ei (0,0)).2∧(([]:List SV)=[]))∧True)∧(((0:Int)=(0:Int)∧(0:Int)=(0:Int)∧(([]:List SV)=[]))∧(g=g∧s=s∧l=l∧(([]:List SV)=[]))∧(d37.1=d37.1∧d37.2=d37.2∧(([]:List SV)=[]))∧((gD (forthW g s l) ei (0,0)).1=(gD (forthW g s l) ei (0,0)).1∧(gD (forthW g s l) ei (0,0)).2=(gD (forthW g s l) ei (0,0)).2∧(([]:List SV)=[]))∧((0:Int)=(0:Int)∧(0:Int)=(0:Int)∧(([]:List SV)=[]))∧((forthW g s l)=(forthW g s l)∧false=false)∧True))∧((0≤ei)∧(ei<(List.length (forthW g s l)))∧(0≤ei)∧(ei<(List.length l))∧((True∧True∧True∧True∧True∧((gD l ei (0,0)).1=(gD l ei (0,0)).1∧(gD l ei (0,0)).2=(gD l ei (0,0)).2∧(([]:List SV)=[]))∧True)∧(((0:Int)=(0:Int)∧(0:Int)=(0:Int)∧(([]:List SV)=[]))∧(g=g∧s=s∧l=l∧(([]:List SV)=[]))∧(d37.1=d37.1∧d37.2=d37.2∧(([]:List SV)=[]))∧((gD (forthW g s l) ei (0,0)).1=(gD (forthW g s l) ei (0,0)).1∧(gD (forthW g s l) ei (0,0)).2=(gD (forthW g s l) ei (0,0)).2∧(([]:List SV)=[]))∧((0:Int)=(0:Int)∧(0:Int)=(0:Int)∧(([]:List SV)=[]))∧((forthW g s l)=(forthW g s l)∧false=false)∧True)))∧(((gD l ei (0,0)).1==(1:Int))=true →
          (I64 ((gD (forthW g s l) ei (0,0)).1-d37.2))∧(I64 ((gD (forthW g s l) ei (0,0)).2-d37.1))∧(0≤s∧s≤1000∧0≤((gD l ei (0,0)).2)∧((gD l ei (0,0)).2)≤12000000)∧(True)∧((((gmax ((gD (forthW g s l) ei (0,0)).1-d37.2) ((realB s (((gD l ei (0,0)).1),((gD l ei (0,0)).2))).1))=((wasSp g s l ei).1)∧(gmin ((gD (forthW g s l) ei (0,0)).2-d37.1) ((realB s (((gD l ei (0,0)).1),((gD l ei (0,0)).2))).2))=((wasSp g s l ei).2)∧(([]:List SV)=[]))∧(0:Int)=(wasErr g s l ei)∧(([]:List SV)=[]))∧(True))) ∧
         (((gD l ei (0,0)).1==(1:Int))=false →
          (((gD l ei (0,0)).1==(2:Int))=true →
           (I64 (d37.1-(gD (forthW g s l) ei (0,0)).2))∧(I64 (d37.2-(gD (forthW g s l) ei (0,0)).1))∧(0≤s∧s≤1000∧0≤((gD l ei (0,0)).2)∧((gD l ei (0,0)).2)≤12000000)∧(True)∧((((gmax (d37.1-(gD (forthW g s l) ei (0,0)).2) ((realB s (((gD l ei (0,0)).1),((gD l ei (0,0)).2))).1))=((wasSp g s l ei).1)∧(gmin (d37.2-(gD (forthW g s l) ei (0,0)).1) ((realB s (((gD l ei (0,0)).1),((gD l ei (0,0)).2))).2))=((wasSp g s l ei).2)∧(([]:List SV)=[]))∧(0:Int)=(wasErr g s l ei)∧(([]:List SV)=[]))∧(True))) ∧
          (((gD l ei (0,0)).1==(2:Int))=false →
           (True)∧(0≤s∧s≤1000∧0≤((gD l ei (0,0)).2)∧((gD l ei (0,0)).2)≤12000000)∧(True)∧((((gmax (gmax ((gD (forthW g s l) ei (0,0)).1) d37.1) ((realB s (((gD l ei (0,0)).1),((gD l ei (0,0)).2))).1))=((wasSp g s l ei).1)∧(gmin (gmin ((gD (forthW g s l) ei (0,0)).2) d37.2) ((realB s (((gD l ei (0,0)).1),((gD l ei (0,0)).2))).2))=((wasSp g s l ei).2)∧(([]:List SV)=[]))∧(0:Int)=(wasErr g s l ei)∧(([]:List SV)=[]))∧(True))))) d350)))))))
def cx_shade_Was:Cx:=⟨[(3,(.i .i64))],[(61,s_shade_within),(60,s_shade_book_forth),(62,s_shade_anything),(64,s_shade_book_before),(66,s_shade_book_real),(65,s_shade_both),(85,s_slices_ContainsFunc_api_ShadeEntry_api_ShadeEntry),(84,s_shade_newBook_1)],103,[],0,[(59,x_shade_newBook),(63,x_slices_Backward_api_ShadeEntry_api_ShadeEntry)],[(89,bwIt (.pair (.i .i64) (.i .i64)))],[],[8,10,13,16,17,66],false,[],[],[],[]⟩
def lp_shade_Was (g:Int) (s:Int) (l:List (Int×Int)) (ei:Int):List (Nat×LoopAnn):=[(1,⟨Unit,Int×Int,[2,3,8,10,11,13],fun e x=>[.val (.list (.pair (.i .i64) (.i .i64))) l,.val (.i .i64) ei,.box 8 0,.box 10 0,.lst 31,.box 13 0],fun e x=>[(8,.slot 8,.cells [.val (.i .i64) (0:Int),.val (.i .i64) (0:Int)] (some 59)),(10,.slot 10,.cells [.val (.i .i64) g,.val (.i .i64) s,.val (.list (.pair (.i .i64) (.i .i64))) l] (some 121)),(31,.slot 11,.lst 59 (.pair (.i .i64) (.i .i64)) (forthW g s l) false),(13,.slot 13,.cells [.val (.i .i64) x.1,.val (.i .i64) x.2] (some 59))]⟩)]
set_option maxRecDepth 100000 in
theorem vq_shade_Was (d:Int×Int×(List (Int×Int))×Int):gwp (cx_shade_Was) (lp_shade_Was d.1 d.2.1 d.2.2.1 d.2.2.2) c33 0 (gend [.cell 8 true 2,.tmp 9] (res_shade_Was d) (obs_shade_Was d)) (gstart 103 (AL.can al_shade_Was d))=vc_shade_Was d.1 d.2.1 d.2.2.1 d.2.2.2:=by kernel_rfl
abbrev Ok_shade_Was:Prop:=OkC Tryz.prog 33 s_shade_Was
theorem mk_shade_Was (h:∀ (g:Int) (s:Int) (l:List (Int×Int)) (ei:Int),(l.length≤1000)→vc_shade_Was g s l ei):OkC Tryz.prog 33 s_shade_Was :=
 okC_vc fun33 mixed (C:=cx_shade_Was) (V:=fun (d:Int×Int×(List (Int×Int))×Int)=>vc_shade_Was d.1 d.2.1 d.2.2.1 d.2.2.2) ⟨(.cons ok_shade_within (.cons ok_shade_book_forth (.cons ok_shade_anything (.cons ok_shade_book_before (.cons ok_shade_book_real (.cons ok_shade_both (.cons ok_slices_ContainsFunc_api_ShadeEntry_api_ShadeEntry (.cons ok_shade_newBook_1 .nil)))))))),(XsOk.cons okx_shade_newBook (XsOk.cons okx_slices_Backward_api_ShadeEntry_api_ShadeEntry XsOk.nil)),(ItsOk.cons (bw_ok funbw89 mixed) ItsOk.nil),YlOk.nil,IysOk.nil,XfOk.nil⟩ (vq_shade_Was) fun d hp=>h d.1 d.2.1 d.2.2.1 d.2.2.2 hp
end Go.Proofs.Tryz
set_option linter.unusedVariables false
namespace Go.Proofs.Tryz
open Go Go.V Go.Proofs
theorem beforeB_bd {s B:Int}{p:Sp}{x:En}(hs:0≤s∧s≤1000) (hx:enOk x) (hB:0≤B) (hp:0≤p.1∧p.1≤B∧-B≤p.2∧p.2≤1099511627776+B):0≤(beforeB s p x).1∧(beforeB s p x).1≤B+12001000∧-(B+12001000)≤(beforeB s p x).2∧(beforeB s p x).2≤1099511627776+(B+12001000):=by
 obtain⟨h1,h2,h3,h4⟩:=hx;unfold beforeB bothB realB anyB;simp only[gmax_eq,gmin_eq];split
 ·dsimp only;omega
 ·split
  ·dsimp only;omega
  ·dsimp only;omega
theorem rest_bd {s:Int}(hs:0≤s∧s≤1000):∀ L:List En,(∀ x∈L,enOk x)→0≤(restB s L).1∧(restB s L).1≤12001000*L.length∧-(12001000*(L.length:Int))≤(restB s L).2∧(restB s L).2≤1099511627776+12001000*L.length
 |[],_=>by unfold restB anyB;simp
 |x::L,h=>by
  have ih:=rest_bd hs L fun y hy=>h y (by simp[hy])
  have:=beforeB_bd (B:=12001000*(L.length:Int)) hs (h x (by simp)) (by omega) ih
  have e:(12001000*((x::L).length:Int))=12001000*(L.length:Int)+12001000:=by simp only[List.length_cons];omega
  rw[e];exact this
theorem rest_step {s:Int}{L:List En}{k:Nat}(hk:k<L.length):restB s (L.drop (L.length-(k+1)))=beforeB s (restB s (L.drop (L.length-k))) (L.getD (L.length-1-k) (0,0)):=by
 have e:L.length-(k+1)=L.length-1-k:=by omega
 rw[e,restB_cons (by omega),show L.length-1-k+1=L.length-k by omega]
theorem was_err {g s e ei:Int}{l:List En}(he:entErr g s l=e) (h0:e≠0):(0=(wasSp g s l ei).1∧0=(wasSp g s l ei).2)∧e=wasErr g s l ei:=by
 have h1:wasErr g s l ei=e:=by unfold wasErr;rw[(book_err he h0).1,if_pos h0]
 have h2:wasSp g s l ei=(0,0):=by unfold wasSp;rw[h1,if_neg h0]
 rw[h1,h2];exact⟨⟨rfl,rfl⟩,rfl⟩
theorem ok_shade_Was:Ok_shade_Was:=mk_shade_Was fun g s l ei hl=>by
 unfold vc_shade_Was;(try delta lI gD sT I64)
 simp only[List.any_cons,List.any_nil,Bool.or_false,Bool.not_not,←nI,List.length_cons,List.length_nil,dead2,dead5,dead0,Bool.true_eq_false,true_and,and_true,exists_const,decide_eq_true_eq,decide_eq_false_iff_not,beq_iff_eq,ne_eq,beq_eq_false_iff_ne,Bool.not_eq_true',Bool.not_eq_false',gt_iff_lt,ge_iff_le,false_implies,Bool.false_eq_true,Bool.or_false,implies_true,forall_const]
 refine⟨by omega,fun h1=>⟨fun _=>was_err (ent2a h1) (by decide),fun h=>by rw[h1] at h;cases h⟩,fun h1=>⟨by omega,fun h2=>was_err (ent2b h2) (by decide),fun h2=>⟨fun h3=>was_err (ent5 h1 h2 h3) (by decide),fun h3=>⟨by omega,fun h4=>was_err (ent2c h1 h2 h3 h4) (by decide),fun h4=>?_⟩⟩⟩⟩
 have he:=ent0 h1 h2 h3 h4;have hb:=entErr_zero he;refine⟨hb,fun hw=>?_,fun hw=>⟨by rw[InK_i64];omega,by omega,fun h5=>?_,fun h5=>?_⟩⟩
 ·have h6:wasErr g s l ei=90:=by unfold wasErr;rw[(book_bad he hw).1,if_pos (by decide)]
  have h7:wasSp g s l ei=(0,0):=by unfold wasSp;rw[h6,if_neg (by decide)]
  rw[h6,h7];exact⟨⟨rfl,rfl⟩,rfl⟩
 ·have h6:wasErr g s l ei=7:=by unfold wasErr;rw[(book_good he hw).1,if_neg (by decide),h5,if_pos (by decide)]
  have h7:wasSp g s l ei=(0,0):=by unfold wasSp;rw[h6,if_neg (by decide)]
  rw[h6,h7];exact⟨⟨rfl,rfl⟩,rfl⟩
 have h5':=h5;simp only[inI,Bool.and_eq_true,decide_eq_true_eq] at h5;obtain⟨n,rfl⟩:=Int.eq_ofNat_of_zero_le h5.1;have hn:n<l.length:=by omega
 have hfw:=(book_good he hw).2.2.2;have hwe:wasErr g s l n=0:=by unfold wasErr;rw[(book_good he hw).1,if_neg (by decide),h5',if_neg (by decide)]
 have hws:wasSp g s l n=wasK g s l n:=by unfold wasSp;rw[if_pos hwe,Int.toNat_natCast]
 have hM:List.take ((l.length:Int)-((n:Int)+1)).toNat (List.drop ((n:Int)+1).toNat l)=l.drop (n+1):=by
  rw[toNat_add1];exact List.take_of_length_le (by rw[List.length_drop];omega)
 obtain⟨b1,b2,b3,b4,b5,b6⟩:=hb;have hx:=b6 _ (List.getElem_mem hn);obtain⟨x1,x2,x3,x4⟩:=hx;have hbd:=stB_bd ⟨b1,b2,b3,b4,b5,b6⟩ n (by omega) fun j h1 h2=>wrong_none.1 (by omega) j (by omega)
 have hLx:∀ x∈l.drop (n+1),enOk x:=fun x hx=>b6 x (List.mem_of_mem_drop hx);have hfl:((List.range (l.length+1)).map (stB g s l)).length=l.length+1:=by simp
 have hwk:wasK g s l n=entB s (stB g s l n) (restB s (l.drop (n+1))) l[n]:=by unfold wasK;rw[getD_nat hn]
 rw[hM,hwe,hws,hwk];simp only[Int.toNat_natCast,hfw,stB_at (show n<l.length+1 by omega),getD_nat (d:=((0,0):Int×Int)) hn,hfl]
 have hLl:(l.drop (n+1)).length=l.length-(n+1):=List.length_drop ..;generalize l.drop (n+1)=L at *;have hr:=rest_bd ⟨b3,b4⟩ L hLx;refine⟨by rw[InK_i64];omega,by omega,by omega,by omega,by omega,(0,1099511627776),⟨rfl,rfl⟩,fun k d=>d=restB s (L.drop (L.length-k)),?_,fun k d hk hd=>?_,fun d hd=>?_⟩
 ·show ((0:Int),(1099511627776:Int))=restB s (L.drop (L.length-0))
  rw[Nat.sub_zero,List.drop_length];rfl
 ·subst hd;have hd2:=rest_bd ⟨b3,b4⟩ (L.drop (L.length-k)) fun x hx=>hLx x (List.mem_of_mem_drop hx);rw[List.length_drop] at hd2;have hk2:L.length-1-k<L.length:=by omega
  obtain⟨y1,y2,y3,y4⟩:=hLx _ (List.getElem_mem hk2);have hst:=rest_step (s:=s) hk;rw[getD_nat hk2] at hst ⊢;refine⟨⟨b3,b4,y3,y4,by omega,by omega,by omega,by omega⟩,beforeB s (restB s (L.drop (L.length-k))) L[L.length-1-k],⟨rfl,rfl⟩,hst.symm⟩
 ·dsimp only at hd;rw[Nat.sub_self,List.drop_zero] at hd;subst hd;have hp:∀ y:Int×Int,(y.1,y.2)=y:=fun _=>rfl;simp only[hp]
  refine⟨by omega,by omega,by omega,by omega,⟨by omega,by omega,by omega,by omega⟩,fun e1=>⟨by rw[InK_i64];omega,by rw[InK_i64];omega,⟨b3,b4,x3,x4⟩,⟨?_,?_⟩,trivial⟩,fun e1=>⟨fun e2=>⟨by rw[InK_i64];omega,by rw[InK_i64];omega,⟨b3,b4,x3,x4⟩,⟨?_,?_⟩,trivial⟩,fun e2=>⟨⟨b3,b4,x3,x4⟩,⟨?_,?_⟩,trivial⟩⟩⟩<;>unfold entB bothB<;>first|(rw[if_pos e1];done)|(rw[if_neg e1,if_pos e2];done)|(rw[if_neg e1,if_neg e2];done)
end Go.Proofs.Tryz
namespace Go.V
open Go
theorem ret_true {P:Program}{σ:Heap}:Ret P σ (.val .bo true) [] (.bool true) σ :=
 ⟨⟨.refl _,Dead.refl _⟩,fun _=>rfl,noPl,fun j b hj=>by simp at hj,fun j j' i hj=>by simp at hj,by simp[SR,KC]⟩
theorem okC_true {P:Program}{f:Nat}(h:∀ (σ:Heap) (K:Value→Heap→Prop),K (.bool true) σ→VCalled P f [] σ K):OkC P f (mkSp (.nil:AL Unit) (fun _=>True) (fun _=>.val .bo true) (fun _=>[])):=by
 intro ap hap σ args vs c v bs hargs hs hv hbs hc;unfold mkSp at hs;split at hs
 ·rename_i d hd;obtain⟨rfl,rfl,rfl⟩:=(by simpa using hs:True=c∧SV.val .bo true=v∧[]=bs)
  have:vs=[]:=by
   cases args with
   |nil=>simpa [SRs] using hargs
   |cons a l=>simp[AL.dec] at hd
  subst this;refine⟨h σ _ ret_true,fun _ _=>h σ _ ⟨rfl,?_⟩⟩;unfold canH;cases σ;simp only[List.length_nil,Nat.add_zero,List.getElem?_nil,Option.bind_none,Heap.mk.injEq,and_true];funext i
  split
  ·rfl
  ·rename_i wf hi;exact wf i (by simpa using hi)
 ·cases hs
end Go.V
namespace Go.V
open Go Go.ChangeShapes Go.WideShapes Go.RowKit Go.Deep Go.Joins
def Heap.RO (σ:Heap):Prop:=∀ i b,σ.get i=some b→b.wr=false
structure View (w:World) (ρ:Plc) (σ:Heap):Prop where
 rel:HRel ρ σ w
 ro:σ.RO
structure More (ρ:Plc) (σ:Heap) (ρ':Plc) (σ':Heap):Prop where
 n:σ.n≤σ'.n
 pl:∀ i,i<σ.n→∀ p,ρ' i=some p→ρ i=some p
 ag:Agree σ σ'
theorem More.refl (ρ:Plc) (σ:Heap):More ρ σ ρ σ:=⟨Nat.le_refl _,fun _ _ _ h=>h,Agree.refl _⟩
theorem More.trans {ρ ρ' ρ'':Plc}{σ σ' σ'':Heap}(h:More ρ σ ρ' σ') (k:More ρ' σ' ρ'' σ''):More ρ σ ρ'' σ'' :=
 ⟨Nat.le_trans h.n k.n,fun i hi p hp=>h.pl i hi p (k.pl i (Nat.lt_of_lt_of_le hi h.n) p hp),h.ag.trans k.ag h.n⟩
def Tabs (w:World):Prop:=∀ g cs,gtab g=some cs→∃ e f,w.heap[g]?=some (.cells cs.toArray e f)
theorem View.emptyT (w:World) (ht:Tabs w):View w (fun _=>none) Heap.empty where
 rel:=⟨⟨fun i b h=>(by cases h),fun _ _=>rfl,fun i p h=>(by cases h),fun i j p q b _ h=>(by cases h)⟩,fun g cs hg=>⟨ht g cs hg,fun ⟨_,_,_,h,_⟩=>by cases h⟩⟩
 ro:=fun i b h=>by cases h
theorem View.add {w:World}{ρ:Plc}{σ:Heap}(h:View w ρ σ) (p:Pl) (c:List Value) {C:Array Value}{e:TypeId}{f:Nat×Nat}(hb:w.heap[p.blk]?=some (.cells C e f)) (hs:p.shift+p.ext≤C.size) (hl:c.length≤p.ext) (ht:e=p.esz.ty)
  (hc:∀ (k:Nat) (v:Value),c[k]?=some v→∃ u,w.cell? ⟨p.blk,p.shift+k,none⟩=some u∧VRel ρ σ.n v u) :
  View w (ρ.put σ.n (some p)) (σ.push (.cells c p.esz false p.tight))∧More ρ σ (ρ.put σ.n (some p)) (σ.push (.cells c p.esz false p.tight)):=by
 have hpl:∀ i,i<σ.n→∀ q,(ρ.put σ.n (some p)) i=some q→ρ i=some q:=fun i hi q hq=>by
  unfold Plc.put at hq;rwa [if_neg (by omega)] at hq
 have hro:(σ.push (.cells c p.esz false p.tight)).RO:=fun i b hi=>by
  by_cases e:i=σ.n
  ·subst e;rw[Heap.get_push_self] at hi;obtain rfl:=osj hi;rfl
  ·rw[Heap.get_push_ne _ _ e] at hi;exact h.ro i b hi
 refine⟨⟨⟨⟨?_,?_,?_,?_⟩,fun g cs hg=>⟨(h.rel.tab g cs hg).1,fun ⟨i,_,b,_,hi,hw,_⟩=>by rw[hro i b hi] at hw;cases hw⟩⟩,hro⟩,⟨by simp,hpl,fun i hi=>Heap.get_push_lt _ _ hi⟩⟩
 ·intro i b hi;by_cases hin:i=σ.n
  ·subst hin;rw[Heap.get_push_self] at hi;obtain rfl:=osj hi;refine⟨p,by simp[Plc.put],rfl,rfl,hl,⟨C,e,f,hb,hs,ht⟩,fun k v hk=>?_,fun h=>by cases h⟩
   obtain⟨u,hu,hv⟩:=hc k v hk;exact⟨u,hu,hv.mono (by simp) hpl⟩
  ·rw[Heap.get_push_ne _ _ hin] at hi;obtain⟨q,hq,hB⟩:=h.rel.live i b hi;exact⟨q,by simp[Plc.put,hin,hq],hB.mono (by simp) hpl rfl⟩
 ·intro i hi;by_cases hin:i=σ.n
  ·subst hin;rw[Heap.get_push_self] at hi;cases hi
  ·rw[Heap.get_push_ne _ _ hin] at hi;simp[Plc.put,hin,h.rel.dead i hi]
 ·intro i q hq;by_cases hin:i=σ.n
  ·subst hin;simp[Plc.put] at hq;subst hq;exact(Array.getElem?_eq_some_iff.1 hb).1
  ·simp[Plc.put,hin] at hq;exact h.rel.lt i q hq
 ·intro i j q r b _ _ _ hb' hw _;rw[hro i b hb'] at hw;cases hw
theorem rowAt_off {P:Program}{fits:TypeId→Bool}{d:Nat}{e:TypeId}{count off n:Nat}(h:rowAt P fits d e count off n=true):off≤count*P.cellsOf e:=by
 cases d with
 |zero=>cases h
 |succ d =>
  unfold rowAt at h;by_cases hs:P.cellsOf e=0
  ·simp[hs] at h
  ·have hpos:0<P.cellsOf e:=Nat.pos_of_ne_zero hs;simp only[hs,if_false,Bool.or_eq_true,Bool.and_eq_true,beq_iff_eq,decide_eq_true_eq] at h;have hd:=Nat.div_add_mod off (P.cellsOf e);have hm:=Nat.mod_lt off hpos;rcases h with⟨⟨h1,h2⟩,_⟩|⟨h1,_⟩
   ·have:P.cellsOf e*(off / P.cellsOf e)≤P.cellsOf e*count:=Nat.mul_le_mul_left _ (by omega)
    rw[Nat.mul_comm count];omega
   ·have:P.cellsOf e*(off / P.cellsOf e+1)≤P.cellsOf e*count:=Nat.mul_le_mul_left _ (by omega)
    rw[Nat.mul_add] at this;rw[Nat.mul_comm count];omega
theorem liesAt_off {P:Program}:∀ {d:Nat}{e:TypeId}{count off:Nat}{u:TypeId}{n:Nat},liesAt P d e count off u n=true→off≤count*P.cellsOf e
 |0,_,_,_,_,_,h=>by cases h
 |d+1,e,count,off,u,n,h=>by
  unfold liesAt at h;rw[Bool.or_eq_true] at h;rcases h with h|h
  ·exact rowAt_off h
  ·split at h
   ·exact liesAt_off h
   ·cases h
theorem has_block {P:Program}{w:World}{r:Reach}{base:Nat}{a:Addr}{e:TypeId}{n:Nat}(h:w.has P r base a e n):∃ C row f,w.heap[a.block]?=some (.cells C row f)∧a.off≤C.size∧a.spot=none:=by
 obtain⟨_,hs,row,cells,hsh,hl⟩:=h;unfold World.shape? at hsh;split at hsh
 ·rename_i C e' f hb;obtain⟨rfl,rfl⟩:=(by simpa using hsh:e'=row∧C.size=cells)
  exact⟨C,e',f,hb,Nat.le_trans (liesAt_off hl) (Nat.div_mul_le_self _ _),hs⟩
 ·cases hsh
theorem okWide_slice {P:Program}{w:World}{r:Reach}{base:Nat}{t e:TypeId}{v:Value}(ht:P.underlying t=some (.slice e)) (h:Cell.okWide P w r base t v) :
  v=.slice none 0 0∨∃ a len cap,v=.slice (some a) len cap∧w.has P r base a e cap:=by
 unfold Cell.okWide at h;rw[ht] at h;have h':Cell.ok P w r base t v:=by
  split at h<;>first|exact h|simp_all
 unfold Cell.ok at h';rw[ht] at h';split at h'<;>first|exact .inl rfl|(cases h';done)|skip
 all_goals first|(rename_i h1 h2;simp_all;done)|skip
 all_goals first|(simp_all;exact⟨_,_,_,⟨rfl,rfl,rfl⟩,h'.2.2⟩)|(simp_all)
theorem int_wf {k:IntKind}{x:Int}(h:(Lit.int k x).wf=true):k.min≤x∧x≤k.max:=by
 simpa [Lit.wf] using h
theorem View.calls {P:Program}{f:FuncId}{w:World}{ρ:Plc}{σ:Heap}(h:View w ρ σ) {args:List Value}{cargs:Array Value}(hl:LRel ρ σ.n args cargs.toList) (hc:VCallsTo P f args σ fun v _=>v=.bool true) :
  Calls P f cargs w fun e w'=>e=.returned (.bool true)∧Below w.heap.size w w':=by
 refine (hc ρ w cargs h.rel hl).mono fun e w' ⟨c,he,v,ρ',σ',hv,hr,_,hx⟩=>?_;subst hv;have:c=.bool true:=by cases hr;rfl
 subst this;exact⟨he,hx.os,hx.tape,hx.output,hx.size,fun B hB=>hx.keep B hB fun ⟨i,p,b,_,hi,hw,_⟩=>by rw[h.ro i b hi] at hw;cases hw⟩
theorem trodAll_stays {H:Type}{enc:TypeId×Value→H}{P:Program}(hl:laidOutB P=true) {W W':World}{sp:Nat→Bool}(hb:Below W.heap.size W W') :
  ∀ {ts:List TypeId}{vs:List Value}{ds:List (DataW H)}{ps:List MemPlace},(∀ t∈ts,P.readableRec t=true∧t<P.types.size)→DataW.TrodAll enc P W 0 (fun _=>true) true ts vs ds ps→(∀ p∈ps,p.block<W.heap.size)→(∀ p∈ps,sp p.block=true) →
   DataW.TrodAll enc P W' 0 sp true ts vs ds ps
 |[],vs,ds,ps,_,h,_,_=>by
  obtain⟨rfl,rfl,rfl⟩:=trodAll_nil h;rfl
 |t::ts,vs,ds,ps,ht,h,hlt,hs=>by
  obtain⟨v,vs',d,ds',p,q,rfl,rfl,rfl,h1,h2⟩:=trodAll_cons h;obtain⟨r1,r2⟩:=ht t (by simp)
  exact⟨p,q,WideElems.Trod_stays hl r1 r2 h1 (fun x hx=>hb.same (hlt x (by simp[hx]))) (fun x hx=>hs x (by simp[hx])),
   trodAll_stays hl hb (fun t ht'=>ht t (by simp[ht'])) h2 (fun x hx=>hlt x (by simp[hx])) (fun x hx=>hs x (by simp[hx])),rfl⟩
theorem post_true {H:Type}{enc:TypeId×Value→H}{P:Program}{f:Func}{s:ChangeSpec}{apart fresh handsOn again:Bool}{W W':World}{args:Array Value}{ds gs:List (DataW H)}{before:List MemPlace}{tb:TypeId}
  (hl:laidOutB P=true) (hp:f.params.toList.all (fun t=>P.readableRec t&&decide (t<P.types.size))=true) (hvars:s.vars=[]) (hr:f.resultTypes=#[tb]) (hb1:P.underlying tb=some .bool) (hs:s.fn H ds={results:=[.lit (.bool true)],args:=ds})
  (hW:DataW.Whole enc P f.params.toList s.vars apart W args.toList ds gs before) (hb:Below W.heap.size W W'):s.post enc P f apart fresh handsOn again W args (.bool true) W':=by
 have hlt:∀ p∈before,p.block<W.heap.size:=fun p hp=>hW.lt p hp;have hW0:=hW;obtain⟨p,q,hA,hV,rfl,hz,hn⟩:=hW;rw[hvars] at hV;obtain⟨rfl,rfl⟩:=trodVars_none hV;have hp':∀ t∈f.params.toList,P.readableRec t=true∧t<P.types.size:=fun t ht=>by
  have:=List.all_eq_true.1 hp t ht;simpa using this
 have hsg:s.fn H (ds++[])={results:=[.lit (.bool true)],args:=ds}:=by rw[List.append_nil];exact hs
 have hres:∀ (b:Nat) (sp:Nat→Bool) (hd:Bool),DataW.TrodAll enc P W' b sp hd f.resultTypes.toList ((Value.bool true).resultList f.resultTypes.size) (s.fn H (ds++[])).results []:=fun b sp hd=>by
  rw[hsg,hr];exact trodAll_mk1 (shut_bool hb1 _)
 have hargs:∀ sp:Nat→Bool,(∀ x∈p++[],sp x.block=true)→DataW.TrodAll enc P W' 0 sp true f.params.toList args.toList (s.fn H (ds++[])).args p:=fun sp hsp=>by
  rw[hsg];exact trodAll_stays hl hb hp' hA (fun x hx=>hlt x (by simp[hx])) (fun x hx=>hsp x (by simp[hx]))
 have hvs:∀ sp:Nat→Bool,DataW.TrodVars enc P W' sp s.vars (s.fn H (ds++[])).vars []:=fun sp=>by
  rw[hsg,hvars];rfl
 have hold:∀ x∈p++[],(fun b=>decide (b<W.heap.size)) x.block=true:=fun x hx=>by simpa using hlt x hx
 refine⟨ds,[],p++[],[],p,[],hW0,hres _ _ _,hargs _ hold,hvs _,World.keptBut_mono (fun x hx=>⟨hx,?_⟩) (hb.frame (·∈p++[])),fun _=>?_⟩
 ·exact .inr (by simpa using hx)
 ·refine⟨ok_one hr rfl (okWide_bool_mk hb1 _),_,_,([]++p)++[],⟨[]++p,[],trodAll_append (hargs _ (fun _ _=>rfl)) (hres _ _ _),hvs _,rfl,?_,?_⟩,?_⟩
  ·intro b off hx;have hin:MemPlace.cell b off∈p++[]:=by simpa using hx
   rw[hb.frozen (hlt _ hin)];exact hz b off hin
  ·intro ha;simpa using hn ha
  ·intro x hx _;simpa using hx
end Go.V
namespace Go.V
open Go Go.ChangeShapes Go.WideShapes Go.RowKit Go.Deep Go.Joins
def KFs (T:Kind→TypeId→Bool) (sz:TypeId→Nat):Kind→List (TypeId×Nat)→Nat→Bool
 |_,[],_=>false
 |k,[p],off=>p.2==off&&(sz p.1==k.size&&T k p.1)
 |.pair a b,p::q::r,off=>p.2==off&&(sz p.1==a.size&&(T a p.1&&KFs T sz b (q::r) (off+a.size)))
 |_,_::_::_,_=>false
def KTy (P:Program):Nat→Kind→TypeId→Bool
 |0,_,_=>false
 |n+1,k,t=>match P.underlying t with
  |some (.struct fs)=>P.cellsOf t==k.size&&KFs (KTy P n) P.cellsOf k (fs.toList.map fun f=>(f.type,f.offset)) 0
  |some (.array m e)=>P.cellsOf t==k.size&&KFs (KTy P n) P.cellsOf k ((List.range m).map fun i=>(e,i*P.cellsOf e)) 0
  |some (.int ik)=>(match k with|.i k'=>decide (k'=ik)|_=>false)
  |some .bool=>(match k with|.bo=>true|_=>false)
  |some .string=>(match k with|.st=>true|_=>false)
  |some (.slice e)=>(match k with|.list k'=>P.cellsOf e==k'.size&&(k'.flat&&KTy P n k' e)|_=>false)
  |_=>false
def KWf:(k:Kind)→k.T→Prop
 |.i ik,x=>InK ik x
 |.bo,_=>True
 |.st,s=>s.length≤maxLen
 |.list k,l=>l.length≤maxLen∧∀ x∈l,KWf k x
 |.pair a b,x=>KWf a x.1∧KWf b x.2
theorem More.le {ρ ρ':Plc}{σ σ':Heap}(h:More ρ σ ρ' σ'):σ.Le σ':=⟨h.n,fun i b hb=>by rw[h.ag i (σ.lt hb)];exact hb⟩
def ArgIs (w:World) (ρ:Plc) (σ:Heap) (k:Kind) (cs:List Value):Prop :=
 ∃ ρ' σ' vs x,View w ρ' σ'∧More ρ σ ρ' σ'∧LRel ρ' σ'.n vs cs∧KC σ' k x vs∧KWf k x
theorem ArgIs.pair {w:World}{ρ:Plc}{σ:Heap}{a b:Kind}{cs ds:List Value}(h1:ArgIs w ρ σ a cs) (h2:∀ ρ σ,View w ρ σ→ArgIs w ρ σ b ds):ArgIs w ρ σ (.pair a b) (cs++ds):=by
 obtain⟨ρ1,σ1,vs1,x1,k1,k2,k3,k4,k5⟩:=h1;obtain⟨ρ2,σ2,vs2,x2,m1,m2,m3,m4,m5⟩:=h2 ρ1 σ1 k1;exact⟨ρ2,σ2,vs1++vs2,(x1,x2),m1,k2.trans m2,(k3.mono m2.n m2.pl).append m3,⟨vs1,vs2,rfl,k4.mono m2.le,m4⟩,k5,m5⟩
section
variable {H:Type}{enc:TypeId×Value→H}{P:Program}{w:World}{r:Reach}{base:Nat}
def okc (P:Program) (w:World) (r:Reach) (base:Nat) (ts:List TypeId) (cs:List Value):Prop:=∀ (i:Nat) v u,cs[i]?=some v→ts[i]?=some u→Cell.okWide P w r base u v
theorem KFs_len {T:Kind→TypeId→Bool}{sz:TypeId→Nat}{g:TypeId→Option (List TypeId)}(hT:∀ k t ts,T k t=true→g t=some ts→ts.length=k.size) :
  ∀ {k:Kind}{L:List (TypeId×Nat)}{off:Nat}{tss:List (List TypeId)},KFs T sz k L off=true→L.mapM (fun p=>g p.1)=some tss→tss.flatten.length=k.size
 |k,[],_,_,h,_=>by simp[KFs] at h
 |k,[p],off,tss,h,hm=>by
  simp only[KFs,Bool.and_eq_true] at h;cases hg:g p.1 with
  |none=>simp[hg] at hm
  |some ts =>
   simp[hg] at hm;subst hm;simpa using hT _ _ _ h.2.2 hg
 |.pair a b,p::q::r,off,tss,h,hm=>by
  simp only[KFs,Bool.and_eq_true] at h;rw[List.mapM_cons] at hm;cases hg:g p.1 with
  |none=>simp[hg] at hm
  |some ts =>
   cases hr:(q::r).mapM (fun p=>g p.1) with
   |none=>simp[hg,hr] at hm
   |some tr =>
    simp[hg,hr] at hm;subst hm;have:=KFs_len hT h.2.2.2 hr;simp only[List.flatten_cons,List.length_append,this,hT _ _ _ h.2.2.1 hg,Kind.size]
 |.i _,_::_::_,_,_,h,_|.bo,_::_::_,_,_,h,_|.st,_::_::_,_,_,h,_|.list _,_::_::_,_,_,h,_=>by cases h
theorem mapM_map {α β γ:Type}{f:α→β}{g:β→Option γ}:∀ (l:List α),(l.map f).mapM g=l.mapM (fun x=>g (f x))
 |[]=>rfl
 |a::l=>by simp only[List.map_cons,List.mapM_cons,mapM_map l]
theorem mapM_const {β:Type}{x:β}{f:Nat→Option β}(h:∀ i,f i=some x):∀ l:List Nat,l.mapM f=some (List.replicate l.length x)
 |[]=>rfl
 |a::l=>by simp[List.mapM_cons,h,mapM_const h l,List.replicate_succ]
theorem KTy_len:∀ {n:Nat}{k:Kind}{t:TypeId}{d:Nat}{ts:List TypeId},KTy P n k t=true→P.cellTypes d t=some ts→ts.length=k.size
 |0,_,_,_,_,h,_=>by cases h
 |_+1,_,_,0,_,_,h=>by cases h
 |n+1,k,t,d+1,ts,h,ht=>by
  have ih:∀ k t ts,KTy P n k t=true→P.cellTypes d t=some ts→ts.length=k.size:=fun k t ts h1 h2=>KTy_len h1 h2;unfold Program.cellTypes at ht;unfold KTy at h;cases hu:P.underlying t with
  |none=>rw[hu] at h;cases h
  |some u =>
   rw[hu] at h ht;cases u<;>first|(cases h;done)|skip
   all_goals simp only at h ht
   ·split at h<;>first|(cases h;done)|(obtain rfl:=osj ht;rfl)
   ·split at h<;>first|(cases h;done)|(obtain rfl:=osj ht;rfl)
   ·split at h<;>first|(cases h;done)|(obtain rfl:=osj ht;rfl)
   ·split at h<;>first|(cases h;done)|(obtain rfl:=osj ht;rfl)
   ·rename_i m e;rw[Bool.and_eq_true] at h;cases hc:P.cellTypes d e with
    |none=>rw[hc] at ht;cases ht
    |some te =>
     rw[hc] at ht;obtain rfl:=osj ht;refine KFs_len (g:=fun t=>P.cellTypes d t) ih h.2 ?_;rw[mapM_map,mapM_const (x:=te) (fun _=>hc)];simp
   ·rename_i fs;rw[Bool.and_eq_true] at h;cases hc:fs.toList.mapM fun f=>P.cellTypes d f.type with
    |none=>rw[hc] at ht;cases ht
    |some tss =>
     rw[hc] at ht;obtain rfl:=osj ht;refine KFs_len (g:=fun t=>P.cellTypes d t) ih h.2 ?_;rw[mapM_map];exact hc
theorem KFs_read {T:Kind→TypeId→Bool}{sz:TypeId→Nat}{Q:TypeId→List Value→Prop}{R:Kind→List Value→Prop}(hT:∀ k t cs,T k t=true→Q t cs→R k cs) (hR:∀ a b cs ds,R a cs→R b ds→R (.pair a b) (cs++ds)) (cs:List Value) :
  ∀ {k:Kind}{L:List (TypeId×Nat)}{off:Nat},KFs T sz k L off=true→(∀ p∈L,Q p.1 ((cs.drop p.2).take (sz p.1)))→R k ((cs.drop off).take k.size)
 |k,[],_,h,_=>by simp[KFs] at h
 |k,[p],off,h,hq=>by
  simp only[KFs,Bool.and_eq_true,beq_iff_eq] at h;have:=hq p (by simp)
  rw[h.1,h.2.1] at this;exact hT _ _ _ h.2.2 this
 |.pair a b,p::q::r,off,h,hq=>by
  simp only[KFs,Bool.and_eq_true,beq_iff_eq] at h;have h1:=hq p (by simp)
  rw[h.1,h.2.1] at h1;have h2:=KFs_read hT hR cs h.2.2.2 fun x hx=>hq x (List.mem_cons_of_mem _ hx);have e:(cs.drop off).take (Kind.pair a b).size=(cs.drop off).take a.size++(cs.drop (off+a.size)).take b.size:=by
   rw[Kind.size,List.take_add,List.drop_drop]
  rw[e];exact hR _ _ _ _ (hT _ _ _ h.2.2.1 h1) h2
 |.i _,_::_::_,_,h,_|.bo,_::_::_,_,h,_|.st,_::_::_,_,h,_|.list _,_::_::_,_,h,_=>by cases h
def FlatIs (k:Kind) (cs:List Value):Prop:=∃ y:k.T,(∀ h,KC h k y cs)∧KWf k y∧∀ ρ m,LRel ρ m cs cs
theorem FlatIs.pair {a b:Kind}{cs ds:List Value}(h1:FlatIs a cs) (h2:FlatIs b ds):FlatIs (.pair a b) (cs++ds):=by
 obtain⟨x,k1,k2,k3⟩:=h1;obtain⟨y,m1,m2,m3⟩:=h2;exact⟨(x,y),fun h=>⟨cs,ds,rfl,k1 h,m1 h⟩,⟨k2,m2⟩,fun ρ m=>(k3 ρ m).append (m3 ρ m)⟩
theorem LRel.one {ρ:Plc}{n:Nat}{v c:Value}(h:VRel ρ n v c):LRel ρ n [v] [c]:=.cons h (.nil _ _)
theorem range_mem_get {fs:Array Field}{f:Field}(h:f∈fs.toList):∃ i:Nat,fs[i]?=some f:=by
 obtain⟨i,hi,rfl⟩:=List.mem_iff_getElem.1 h;exact⟨i,by simp at hi;simp[hi]⟩
theorem KTy_flat {sp:Nat→Bool}{held:Bool}:∀ {n:Nat}{k:Kind}{t:TypeId}{fuel:Nat}{cs:List Value}{x:DataW H×List MemPlace},KTy P n k t=true→k.flat=true→DataW.trod enc P w base sp held fuel t cs=some x→FlatIs k cs
 |0,_,_,_,_,_,h,_,_=>by cases h
 |n+1,k,t,fuel,cs,x,h,hf,hx=>by
  unfold KTy at h;cases hu:P.underlying t with
  |none=>rw[hu] at h;cases h
  |some u =>
   rw[hu] at h;have hR:∀ a b cs ds,((a.flat=true→FlatIs a cs)∧True)→((b.flat=true→FlatIs b ds)∧True)→(((Kind.pair a b).flat=true→FlatIs (.pair a b) (cs++ds))∧True):=fun a b cs ds h1 h2=>⟨fun hf=>by
    simp only[Kind.flat,Bool.and_eq_true] at hf;exact(h1.1 hf.1).pair (h2.1 hf.2),trivial⟩
   have hT:∀ k t cs,KTy P n k t=true→(∃ fuel x,DataW.trod enc P w base sp held fuel t cs=some x)→((k.flat=true→FlatIs k cs)∧True):=fun k t cs h1 ⟨fuel,x,h2⟩=>⟨fun hf=>KTy_flat h1 hf h2,trivial⟩;cases u<;>first|(cases h;done)|skip
   all_goals simp only at h
   ·split at h<;>first|(cases h;done)|skip
    obtain⟨b,rfl,_⟩:=DataW.trod_bool hu hx;exact⟨b,fun _=>rfl,trivial,fun _ _=>.one (.bool _)⟩
   ·split at h<;>first|(cases h;done)|skip
    obtain rfl:=of_decide_eq_true h;obtain⟨z,rfl,_,hw⟩:=DataW.trod_int hu hx;exact⟨z,fun _=>rfl,int_wf hw,fun _ _=>.one (.int _ _)⟩
   ·split at h<;>first|(cases h;done)|skip
    obtain⟨s,rfl,_,hs⟩:=DataW.trod_string hu hx;exact⟨s.data.toList,fun _=>rfl,hs,fun _ _=>.one (.string _)⟩
   ·split at h<;>first|(cases h;done)|(cases hf;done)
   ·rename_i m e;simp only[Bool.and_eq_true,beq_iff_eq] at h;obtain⟨xs,m',_,_,hl,hxl,hx⟩:=DataW.trod_array hu hx;have:=(KFs_read (R:=fun k cs=>(k.flat=true→FlatIs k cs)∧True) hT hR cs h.2 fun p hp=>by
     simp only[List.mem_map,List.mem_range] at hp;obtain⟨i,hi,rfl⟩:=hp;have:=hx i hi;rw[List.getElem?_eq_getElem (by omega)] at this
     exact⟨_,_,this⟩).1 hf
    rwa [List.drop_zero,List.take_of_length_le (by omega)] at this
   ·rename_i fs;simp only[Bool.and_eq_true,beq_iff_eq] at h;obtain⟨xs,m',_,_,hl,hxl,hx⟩:=DataW.trod_struct hu hx;have:=(KFs_read (R:=fun k cs=>(k.flat=true→FlatIs k cs)∧True) hT hR cs h.2 fun p hp=>by
     simp only[List.mem_map] at hp;obtain⟨f,hf',rfl⟩:=hp;obtain⟨i,hi⟩:=range_mem_get hf';have:=hx i f hi;have hil:i<fs.size:=(Array.getElem?_eq_some_iff.1 hi).1;rw[List.getElem?_eq_getElem (by omega)] at this
     exact⟨_,_,this⟩).1 hf
    rwa [List.drop_zero,List.take_of_length_le (by omega)] at this
theorem Rows.range {α:Type}{R:α→List Value→Prop}{n:Nat}{c:List Value}{x:Nat→α}:∀ (m:Nat),(∀ i,i<m→R (x i) ((c.drop (i*n)).take n))→Rows R ((List.range m).map x) (c.take (m*n))
 |0,_=>by simp;exact .nil
 |m+1,h=>by
  have e:c.take ((m+1)*n)=c.take (m*n)++(c.drop (m*n)).take n:=by rw[Nat.add_mul,Nat.one_mul,List.take_add]
  rw[List.range_succ,List.map_append,e];exact(Rows.range m fun i hi=>h i (by omega)).append (by simpa using Rows.cons (h m (by omega)) .nil)
theorem choose_below {α:Type}[Inhabited α] {m:Nat}{p:Nat→α→Prop}(h:∀ i,i<m→∃ x,p i x):∃ f:Nat→α,∀ i,i<m→p i (f i) :=
 ⟨fun i=>if hi:i<m then (h i hi).choose else default,fun i hi=>by simp only[hi,dif_pos];exact(h i hi).choose_spec⟩
instance KInh (k:Kind):Inhabited k.T:=⟨k.dflt⟩
theorem View.list {ρ:Plc}{σ:Heap}(h:View w ρ σ) {n:Nat}{k:Kind}{t e:TypeId}{fuel:Nat}{cs:List Value}{x:DataW H×List MemPlace}(hu:P.underlying t=some (.slice e)) (hs:P.cellsOf e=k.size) (hf:k.flat=true) (hk:KTy P n k e=true)
  (hx:DataW.trod enc P w 0 (fun _=>true) true fuel t cs=some x) (hok:okc P w r base [t] cs):ArgIs w ρ σ (.list k) cs:=by
 rcases open_slice hu hx with⟨rfl,_⟩|⟨a,len,cap,m,fu,D,Pl,rfl,hb,hl,hm,hmm,_,hel⟩
 ·exact⟨ρ,σ,[.slice none 0 0],[],h,More.refl _ _,.one .nilSl,⟨_,rfl,.inl ⟨rfl,rfl⟩⟩,by simp[maxLen],fun _ hx=>by cases hx⟩
 simp only[if_true] at hmm;subst hmm;rw[hs] at hel;have hhas:w.has P r base a e m:=by
  rcases okWide_slice hu (hok 0 _ t rfl rfl) with hh|⟨a',len',cap',hh,h2⟩
  ·cases hh
  ·cases hh;exact h2
 obtain⟨C,row,f,hblk,hoff,hsp⟩:=has_block hhas;obtain⟨blk,off,spot⟩:=a;simp only at hblk hoff hsp;subst hsp;have hadd:∀ i,(⟨blk,off,none⟩:Addr).add i=⟨blk,off+i,none⟩:=fun i=>by unfold Addr.add;split<;>simp_all
 obtain⟨X,hX⟩:=choose_below (α:=k.T×List Value) (m:=m) (p:=fun i p=>p.2.length=k.size∧(∀ j,j<k.size→w.cell? ⟨blk,off+i*k.size+j,none⟩=p.2[j]?)∧(∀ h,KC h k p.1 p.2)∧KWf k p.1∧∀ ρ m,LRel ρ m p.2 p.2) fun i hi=>by
  obtain⟨cs',h1,h2⟩:=hel i hi;obtain⟨_,k1,k2⟩:=World.cells?_some h1;obtain⟨y,m1,m2,m3⟩:=KTy_flat hk hf h2;refine⟨(y,cs'),k1,fun j hj=>?_,m1,m2,m3⟩;have:=k2 j hj;rw[hadd] at this;have e2:(⟨blk,off+i*k.size,none⟩:Addr).add j=⟨blk,off+i*k.size+j,none⟩:=by unfold Addr.add;split<;>simp_all
  rw[e2] at this;exact this
 have hpos:=k.size_pos
 let c:List Value:=(List.range (m*k.size)).map fun j=>((X (j / k.size)).2[j % k.size]?).getD undef
 have hcl:c.length=m*k.size:=by simp[c]
 have hdiv:∀ j,j<m*k.size→j / k.size<m:=fun j hj=>Nat.div_lt_of_lt_mul (by rw[Nat.mul_comm];exact hj)
 have hcell:∀ j,j<m*k.size→∃ v,c[j]?=some v∧w.cell? ⟨blk,off+j,none⟩=some v∧∀ ρ m,VRel ρ m v v:=fun j hj=>by
  have h1:=hX (j / k.size) (hdiv j hj);have hjm:j % k.size<k.size:=Nat.mod_lt _ hpos;have h2:=h1.2.1 _ hjm;have e:off+j / k.size*k.size+j % k.size=off+j:=by rw[Nat.add_assoc,Nat.div_add_mod']
  rw[e] at h2;have h3:j % k.size<(X (j / k.size)).2.length:=by rw[h1.1];exact hjm
  refine⟨(X (j / k.size)).2[j % k.size],?_,?_,fun ρ m=>(h1.2.2.2.2 ρ m).2 _ _ _ (List.getElem?_eq_getElem h3) (List.getElem?_eq_getElem h3)⟩
  ·simp only[c,List.getElem?_map,List.getElem?_range hj,Option.map_some,List.getElem?_eq_getElem h3,Option.getD_some]
  ·rw[h2,List.getElem?_eq_getElem h3]
 have helt:∀ i,i<m→(c.drop (i*k.size)).take k.size=(X i).2:=fun i hi=>by
  have h1:=hX i hi;have hle:i*k.size+k.size≤m*k.size:=by
   have:(i+1)*k.size≤m*k.size:=Nat.mul_le_mul_right _ hi;rw[Nat.add_mul] at this;omega
  apply List.ext_getElem?
  intro j;by_cases hj:j<k.size
  ·rw[List.getElem?_take_of_lt hj,List.getElem?_drop];have hj2:i*k.size+j<m*k.size:=by omega
   have e1:(i*k.size+j) / k.size=i:=by rw[Nat.mul_comm,Nat.mul_add_div hpos,Nat.div_eq_of_lt hj,Nat.add_zero]
   have e2:(i*k.size+j) % k.size=j:=by rw[Nat.mul_comm,Nat.mul_add_mod,Nat.mod_eq_of_lt hj]
   have h3:j<(X i).2.length:=by rw[h1.1];exact hj
   simp only[c,List.getElem?_map,List.getElem?_range hj2,Option.map_some,e1,e2,List.getElem?_eq_getElem h3,Option.getD_some]
  ·rw[List.getElem?_eq_none (by simp;omega),List.getElem?_eq_none (by omega)]
 have hsz:off+m*k.size≤C.size:=by
  rcases Nat.eq_zero_or_pos (m*k.size) with h0|h0
  ·omega
  ·obtain⟨v,_,h2,_⟩:=hcell (m*k.size-1) (by omega)
   unfold World.cell? at h2;simp only[hblk] at h2;have:=(Array.getElem?_eq_some_iff.1 (by simpa using h2)).1
   omega
 obtain⟨hv,hmo⟩:=h.add ⟨blk,off,m*k.size,⟨k.size,row⟩,false⟩ c hblk hsz (by simp[hcl]) rfl (fun j v hj=>by
  have hjl:j<m*k.size:=by rw[←hcl];exact(List.getElem?_eq_some_iff.1 hj).1
  obtain⟨v',h1,h2,h3⟩:=hcell j hjl;obtain rfl:=osj (hj.symm.trans h1);exact⟨v,h2,h3 _ _⟩)
 have hlen:((List.range len).map fun i=>(X i).1).length=len:=by simp
 refine⟨_,_,[.slice (some ⟨σ.n,0,none⟩) len m],(List.range len).map fun i=>(X i).1,hv,hmo,.one ?_,⟨_,rfl,.inr ⟨σ.n,0,m,c,⟨k.size,row⟩,false,false,by rw[hlen],by rw[hlen];exact hl,Heap.get_push_self _ _,rfl,?_,?_⟩⟩,?_,fun y hy=>?_⟩
 ·refine .sl _ _ _ _ _ _ (by simp) fun p hp=>?_
  simp[Plc.put] at hp;subst hp;exact⟨Nat.le_refl _,(fun h=>by cases h),0,by simp,by simp,.inl rfl⟩
 ·rw[hlen,hcl,Nat.zero_add];exact Nat.mul_le_mul_right _ hl
 ·rw[hlen,List.drop_zero];refine Rows.range len fun i hi=>?_;rw[helt i (by omega)]
  exact(hX i (by omega)).2.2.1 _
 ·rw[hlen];exact Nat.le_trans hl hm
 ·obtain⟨i,hi,rfl⟩:=List.mem_map.1 hy;exact(hX i (by have:=List.mem_range.1 hi;omega)).2.2.2.1
def Kind.lev1:Kind→Bool
 |.list k=>k.flat
 |.pair a b=>a.lev1&&b.lev1
 |_=>true
theorem okc_part {ts:List TypeId}{cs:List Value}(h:okc P w r base ts cs) (o n:Nat):okc P w r base ((ts.drop o).take n) ((cs.drop o).take n):=fun i v u h1 h2=>by
 have hi:i<n:=by
  have:=(List.getElem?_eq_some_iff.1 h1).1;rw[List.length_take] at this;omega
 rw[List.getElem?_take_of_lt hi,List.getElem?_drop] at h1 h2;exact h _ v u h1 h2
theorem KFs_types {T:Kind→TypeId→Bool}{sz:TypeId→Nat}{g:TypeId→Option (List TypeId)}(hT:∀ k t ts,T k t=true→g t=some ts→ts.length=k.size) :
  ∀ {k:Kind}{L:List (TypeId×Nat)}{off:Nat}{tss:List (List TypeId)},KFs T sz k L off=true→L.mapM (fun p=>g p.1)=some tss→∀ p∈L,off≤p.2∧g p.1=some ((tss.flatten.drop (p.2-off)).take (sz p.1))
 |k,[],_,_,h,_=>by simp[KFs] at h
 |k,[p],off,tss,h,hm=>by
  simp only[KFs,Bool.and_eq_true,beq_iff_eq] at h;intro p' hp;obtain rfl:=List.mem_singleton.1 hp;cases hg:g p'.1 with
  |none=>simp[hg] at hm
  |some ts =>
   simp[hg] at hm;subst hm;refine⟨by omega,?_⟩
   rw[h.1,Nat.sub_self,List.drop_zero,h.2.1,List.take_of_length_le]
   ·simp
   ·simp[hT _ _ _ h.2.2 hg]
 |.pair a b,p::q::r,off,tss,h,hm=>by
  simp only[KFs,Bool.and_eq_true,beq_iff_eq] at h;rw[List.mapM_cons] at hm;intro p' hp;cases hg:g p.1 with
  |none=>simp[hg] at hm
  |some ts =>
   cases hr:(q::r).mapM (fun p=>g p.1) with
   |none=>simp[hg,hr] at hm
   |some tr =>
    simp[hg,hr] at hm;subst hm;have hlen:=hT _ _ _ h.2.2.1 hg;rcases List.mem_cons.1 hp with rfl|hp
    ·refine⟨by omega,?_⟩
     rw[hg,h.1,Nat.sub_self,List.drop_zero,h.2.1,List.flatten_cons,List.take_append,←hlen,Nat.sub_self,List.take_zero,List.append_nil,List.take_length]
    ·obtain⟨h1,h2⟩:=KFs_types hT h.2.2.2 hr p' hp;refine⟨by omega,?_⟩
     have e1:ts.drop (p'.2-off)=[]:=List.drop_eq_nil_of_le (by omega)
     have e2:p'.2-off-a.size=p'.2-(off+a.size):=by omega
     rw[h2,List.flatten_cons,List.drop_append,hlen,e1,e2,List.nil_append]
 |.i _,_::_::_,_,_,h,_|.bo,_::_::_,_,_,h,_|.st,_::_::_,_,_,h,_|.list _,_::_::_,_,_,h,_=>by cases h
theorem KTy_read:∀ {n:Nat}{k:Kind}{t:TypeId}{d:Nat}{ts:List TypeId}{fuel:Nat}{cs:List Value}{x:DataW H×List MemPlace},KTy P n k t=true→k.lev1=true→P.cellTypes d t=some ts→okc P w r base ts cs→DataW.trod enc P w 0 (fun _=>true) true fuel t cs=some x→∀ ρ σ,View w ρ σ→ArgIs w ρ σ k cs
 |0,_,_,_,_,_,_,_,h,_,_,_,_=>by cases h
 |_+1,_,_,0,_,_,_,_,_,_,h,_,_=>by cases h
 |n+1,k,t,d+1,ts,fuel,cs,x,h,hf,hts,hok,hx=>by
  intro ρ σ hv;by_cases hflat:k.flat=true
  ·obtain⟨y,h1,h2,h3⟩:=KTy_flat h hflat hx;exact⟨ρ,σ,cs,y,hv,More.refl _ _,h3 _ _,h1 _,h2⟩
  unfold KTy at h;cases hu:P.underlying t with
  |none=>rw[hu] at h;cases h
  |some u =>
   rw[hu] at h
   let Q:TypeId→List Value→Prop:=fun t cs=>(∃ fuel x,DataW.trod enc P w 0 (fun _=>true) true fuel t cs=some x)∧∃ ts,P.cellTypes d t=some ts∧okc P w r base ts cs
   let R:Kind→List Value→Prop:=fun k cs=>k.lev1=true→∀ ρ σ,View w ρ σ→ArgIs w ρ σ k cs
   have hR:∀ a b cs ds,R a cs→R b ds→R (.pair a b) (cs++ds):=fun a b cs ds h1 h2 hl ρ σ hv=>by
    simp only[Kind.lev1,Bool.and_eq_true] at hl;exact(h1 hl.1 ρ σ hv).pair fun ρ σ hv=>h2 hl.2 ρ σ hv
   have hT:∀ k t cs,KTy P n k t=true→Q t cs→R k cs:=fun k t cs h1 ⟨⟨fuel,x,h2⟩,ts,h3,h4⟩ hl=>KTy_read h1 hl h3 h4 h2;have hlen:∀ k t ts,KTy P n k t=true→P.cellTypes d t=some ts→ts.length=k.size:=fun k t ts h1 h2=>KTy_len h1 h2;unfold Program.cellTypes at hts;rw[hu] at hts;cases u<;>first|(cases h;done)|skip
   all_goals simp only at h
   ·split at h<;>first|(cases h;done)|(exact absurd rfl hflat)
   ·split at h<;>first|(cases h;done)|(exact absurd rfl hflat)
   ·split at h<;>first|(cases h;done)|(exact absurd rfl hflat)
   ·rename_i e;split at h<;>first|(cases h;done)|skip
    simp only[Bool.and_eq_true,beq_iff_eq] at h;simp only[Option.some.injEq] at hts;subst hts;exact hv.list hu h.1 h.2.1 h.2.2 hx hok
   ·rename_i m e;simp only[Bool.and_eq_true,beq_iff_eq] at h;obtain⟨xs,m',_,_,hl,hxl,hx⟩:=DataW.trod_array hu hx;simp only at hts;cases hc:P.cellTypes d e with
    |none=>rw[hc] at hts;cases hts
    |some te =>
     rw[hc] at hts;obtain rfl:=osj hts;have htm:((List.range m).map fun i=>(e,i*P.cellsOf e)).mapM (fun p:TypeId×Nat=>P.cellTypes d p.1)=some (List.replicate m te):=by
      rw[mapM_map,mapM_const (x:=te) (fun _=>hc)];simp
     have:=KFs_read (Q:=Q) (R:=R) hT hR cs h.2 (fun p hp=>by
      have hty:=KFs_types (g:=fun t=>P.cellTypes d t) hlen h.2 htm p hp;simp only[List.mem_map,List.mem_range] at hp;obtain⟨i,hi,rfl⟩:=hp;have:=hx i hi;rw[List.getElem?_eq_getElem (by omega)] at this
      exact⟨⟨_,_,this⟩,_,hty.2,okc_part hok _ _⟩) hf ρ σ hv
     rwa [List.drop_zero,List.take_of_length_le (by omega)] at this
   ·rename_i fs;simp only[Bool.and_eq_true,beq_iff_eq] at h;obtain⟨xs,m',_,_,hl,hxl,hx⟩:=DataW.trod_struct hu hx;simp only at hts;cases hc:fs.toList.mapM fun f=>P.cellTypes d f.type with
    |none=>rw[hc] at hts;cases hts
    |some tss =>
     rw[hc] at hts;obtain rfl:=osj hts;have htm:(fs.toList.map fun f=>(f.type,f.offset)).mapM (fun p:TypeId×Nat=>P.cellTypes d p.1)=some tss:=by
      rw[mapM_map];exact hc
     have:=KFs_read (Q:=Q) (R:=R) hT hR cs h.2 (fun p hp=>by
      have hty:=KFs_types (g:=fun t=>P.cellTypes d t) hlen h.2 htm p hp;simp only[List.mem_map] at hp;obtain⟨f,hf',rfl⟩:=hp;obtain⟨i,hi⟩:=range_mem_get hf';have:=hx i f hi;have hil:i<fs.size:=(Array.getElem?_eq_some_iff.1 hi).1;rw[List.getElem?_eq_getElem (by omega)] at this
      exact⟨⟨_,_,this⟩,_,hty.2,okc_part hok _ _⟩) hf ρ σ hv
     rwa [List.drop_zero,List.take_of_length_le (by omega)] at this
def isAgg (P:Program) (t:TypeId):Bool:=match P.underlying t with
 |some (.struct _)=>true
 |some (.array _ _)=>true
 |_=>false
theorem View.arg {ρ:Plc}{σ:Heap}(h:View w ρ σ) {n:Nat}{k:Kind}{t:TypeId}{v:Value}{d:DataW H}{p:List MemPlace}(hk:KTy P n k t=true) (hl:k.lev1=true) (ha:isAgg P t=!k.one) (hok:Value.okWide P w r base t v) (hd:DataW.Trod enc P w 0 (fun _=>true) true t v d p) :
  ∃ ρ' σ' vv x,View w ρ' σ'∧More ρ σ ρ' σ'∧VRel ρ' σ'.n vv v∧KV σ' k x vv∧KWf k x:=by
 obtain⟨fuel,hd⟩:=hd;by_cases hagg:isAgg P t=true
 ·have hone:k.one=false:=by rw[hagg] at ha;simpa using ha.symm
  have:∃ cs,v=.agg cs∧cs.size=P.cellsOf t∧Row.okWide P w r base t cs:=by
   unfold isAgg at hagg;unfold Value.okWide at hok;split at hagg<;>first|(cases hagg;done)|skip
   ·rename_i hu;rw[hu] at hok;exact hok
   ·rename_i hu;rw[hu] at hok;exact hok
  obtain⟨cs,rfl,hsz,ts,hts,_,hcells⟩:=this;have hlen:=KTy_len hk hts;have hcs:P.cellsOf t=k.size:=by
   unfold isAgg at hagg;cases n with
   |zero=>cases hk
   |succ n =>
    unfold KTy at hk;split at hagg<;>first|(cases hagg;done)|skip
    all_goals
     rename_i hu;rw[hu] at hk;simp only[Bool.and_eq_true,beq_iff_eq] at hk;exact hk.1
  have hokc:okc P w r base ts cs.toList:=fun i v u h1 h2=>by
   have hi:i<ts.length:=(List.getElem?_eq_some_iff.1 h2).1;obtain⟨u',h3,h4⟩:=hcells i v (by simpa using h1)
   rw[Nat.mod_eq_of_lt hi] at h3;obtain rfl:=osj (h2.symm.trans h3);exact h4
  obtain⟨ρ',σ',vs,x,k1,k2,k3,k4,k5⟩:=KTy_read hk hl hts hokc (show DataW.trod enc P w 0 _ true fuel t cs.toList=_ from hd) ρ σ h
  exact⟨ρ',σ',.agg vs.toArray,x,k1,k2,VRel.agg_of (ds:=cs.toList) k3,.inr ⟨hone,vs,rfl,k4⟩,k5⟩
 ·have hone:k.one=true:=by
   have:isAgg P t=false:=by simpa using hagg
   rw[this] at ha;simpa using ha.symm
  have hsize:=Kind.one_size hone;have hcell:Cell.okWide P w r base t v∧v.cells.toList=[v]:=by
   have h1:isAgg P t=false:=by simpa using hagg
   unfold isAgg at h1;have h2:Cell.okWide P w r base t v:=by
    unfold Value.okWide at hok;split at hok
    ·rename_i hu;rw[hu] at h1;cases h1
    ·rename_i hu;rw[hu] at h1;cases h1
    ·exact hok
   refine⟨h2,?_⟩;cases v<;>first|rfl|skip
   all_goals
    exfalso;cases n with
    |zero=>cases hk
    |succ n =>
     unfold KTy at hk;unfold Cell.okWide Cell.ok at h2;cases hu:P.underlying t with
     |none=>rw[hu] at hk;cases hk
     |some u =>
      rw[hu] at hk h2 h1;cases u<;>first|(cases hk;done)|(cases h1;done)|(cases h2;done)|(simp at h2;done)
  have hts:P.cellTypes 1 t=some [t]:=by
   have h1:isAgg P t=false:=by simpa using hagg
   unfold isAgg at h1;unfold Program.cellTypes;cases n with
   |zero=>cases hk
   |succ n =>
    unfold KTy at hk;cases hu:P.underlying t with
    |none=>rw[hu] at hk;cases hk
    |some u =>
     rw[hu] at h1;cases u<;>first|rfl|(cases h1;done)
  rw[hcell.2] at hd;have hokc:okc P w r base [t] [v]:=fun i v' u h1 h2=>by
   cases i with
   |zero=>cases h1;cases h2;exact hcell.1
   |succ i=>simp at h1
  obtain⟨ρ',σ',vs,x,k1,k2,k3,k4,k5⟩:=KTy_read hk hl hts hokc hd ρ σ h;have:vs.length=1:=by rw[KC.length k4];exact hsize
  obtain⟨vv,rfl⟩:=List.length_eq_one_iff.1 this;exact⟨ρ',σ',vv,x,k1,k2,k3.2 0 _ _ rfl rfl,.inl ⟨hone,k4⟩,k5⟩
def AWf:(ks:List Kind)→AT ks→Prop
 |[],_=>True
 |[k],x=>KWf k x
 |k::k'::ks,x=>KWf k x.1∧AWf (k'::ks) x.2
def ktys (P:Program):List Kind→List TypeId→Bool
 |[],[]=>true
 |k::ks,t::ts=>(KTy P 8 k t&&(k.lev1&&(isAgg P t==!k.one)))&&ktys P ks ts
 |_,_=>false
theorem View.args:∀ {ks:List Kind}{ts:List TypeId}{vs:List Value}{ds:List (DataW H)}{ps:List MemPlace}{ρ:Plc}{σ:Heap},View w ρ σ→ktys P ks ts=true→(∀ (j:Nat) t v,ts[j]?=some t→vs[j]?=some v→Value.okWide P w r base t v)→DataW.TrodAll enc P w 0 (fun _=>true) true ts vs ds ps →
  ∃ ρ' σ' vvs x,View w ρ' σ'∧More ρ σ ρ' σ'∧LRel ρ' σ'.n vvs vs∧atVals σ' ks x vvs∧AWf ks x
 |[],[],vs,ds,ps,ρ,σ,h,_,_,hA=>by
  obtain⟨rfl,rfl,rfl⟩:=trodAll_nil hA;exact⟨ρ,σ,[],(),h,More.refl _ _,.nil _ _,rfl,trivial⟩
 |[k],[t],vs,ds,ps,ρ,σ,h,hk,hv,hA=>by
  obtain⟨v,vs',d,ds',p,q,rfl,rfl,rfl,h1,h2⟩:=trodAll_cons hA;obtain⟨rfl,rfl,rfl⟩:=trodAll_nil h2;simp only[ktys,Bool.and_eq_true,beq_iff_eq] at hk;obtain⟨ρ',σ',vv,x,k1,k2,k3,k4,k5⟩:=h.arg hk.1.1 hk.1.2.1 hk.1.2.2 (hv 0 t v rfl rfl) h1;exact⟨ρ',σ',[vv],x,k1,k2,.one k3,⟨vv,rfl,k4⟩,k5⟩
 |k::k'::ks,t::ts,vs,ds,ps,ρ,σ,h,hk,hv,hA=>by
  obtain⟨v,vs',d,ds',p,q,rfl,rfl,rfl,h1,h2⟩:=trodAll_cons hA;simp only[ktys,Bool.and_eq_true,beq_iff_eq] at hk;obtain⟨ρ1,σ1,vv,x,k1,k2,k3,k4,k5⟩:=h.arg hk.1.1 hk.1.2.1 hk.1.2.2 (hv 0 t v rfl rfl) h1;obtain⟨ρ2,σ2,vvs,y,m1,m2,m3,m4,m5⟩:=k1.args (ks:=k'::ks) hk.2 (fun j t v h1 h2=>hv (j+1) t v h1 h2) h2
  exact⟨ρ2,σ2,vv::vvs,(x,y),m1,k2.trans m2,.cons (k3.mono m2.n m2.pl) m3,⟨vv,vvs,rfl,k4.vcall m2.le,m4⟩,k5,m5⟩
 |[],_::_,_,_,_,_,_,_,hk,_,_|_::_,[],_,_,_,_,_,_,hk,_,_|[_],_::_::_,_,_,_,_,_,_,hk,_,_=>by simp[ktys] at hk
theorem law_calls (hT:Tabs w) {f:Nat}{sp:CSp}(hsp:OkC P f sp) (he:Enterable P f) {ks:List Kind}{ts:List TypeId}{args:Array Value}{ds:List (DataW H)}{ps:List MemPlace}(hk:ktys P ks ts=true)
  (hv:∀ (j:Nat) t v,ts[j]?=some t→args.toList[j]?=some v→Value.okWide P w r base t v) (hA:DataW.TrodAll enc P w 0 (fun _=>true) true ts args.toList ds ps)
  (hs:∀ x:AT ks,AWf ks x→∃ c,sp (fun _ _=>none) (atSVs ks x)=some (c,.val .bo true,[])∧c):Calls P f args w fun e w'=>e=.returned (.bool true)∧Below w.heap.size w w':=by
 obtain⟨ρ,σ,vvs,x,k1,k2,k3,k4,k5⟩:=(View.emptyT w hT).args hk hv hA;obtain⟨c,h1,h2⟩:=hs x k5;exact k1.calls k3 (hsp.true he (atSVs_sound k4) h1 h2)
end
end Go.V
namespace Go.V
open Go
theorem trodAll_len {H:Type}{enc:TypeId×Value→H}{P:Program}{w:World}{b:Nat}{sp:Nat→Bool}{hd:Bool}:∀ {ts:List TypeId}{vs:List Value}{ds:List (DataW H)}{ps:List MemPlace},DataW.TrodAll enc P w b sp hd ts vs ds ps→ds.length=ts.length
 |[],[],[],_,_=>rfl
 |t::ts,v::vs,d::ds,ps,h=>by
  obtain⟨p,q,_,h2,_⟩:=h;simp[trodAll_len h2]
 |[],[],_::_,_,h|[],_::_,_,_,h|_::_,[],_,_,h|_::_,_::_,[],_,h=>h.elim
end Go.V
namespace Go.Proofs.Tryz
open Go Go.V
noncomputable def tabT:List (Option FEnt):=[
 none,
 none,
 some (.code c2 [] 1),
 some (.code c3 [.tmp 4] 236),
 some (.code c4 [.tmp 6] 80),
 some (.code c5 [.tmp 4] 82),
 some (.code c6 [.tmp 4] 204),
 some (.code c7 [.tmp 4] 280),
 some (.code c8 [.tmp 6] 337),
 some (.code c9 [.tmp 4] 271),
 some (.code c10 [.tmp 6] 184),
 some (.code c11 [.tmp 4] 14),
 some (.code c12 [.tmp 4] 18),
 some (.code c13 [.tmp 0] 193),
 some (.code c14 [.tmp 2] 6),
 some (.codeJ c15 [.tmp 4,.tmp 5] 15),
 some (.codeJ c16 [.tmp 4,.tmp 5] 18),
 some (.code c17 [.tmp 4] 26),
 some (.code c18 [.tmp 8] 65),
 some (.code c19 [.tmp 4] 29),
 some (.code c20 [.tmp 6] 15),
 some (.code c21 [.tmp 6] 33),
 some (.code c22 [.tmp 6] 31),
 some (.code c23 [.tmp 2] 11),
 some (.codeJ c24 [.tmp 6,.tmp 7] 29),
 some (.code c25 [.tmp 6,.tmp 7] 77),
 some (.code c26 [.tmp 4] 26),
 some (.codeJ c27 [.tmp 4,.tmp 5,.tmp 6] 73),
 some (.code c28 [.tmp 8,.tmp 9] 65),
 some (.code c29 [.tmp 6] 41),
 some (.code c30 [.tmp 2] 32),
 some (.code c31 [.tmp 2] 6),
 some (.codeJ c32 [.cell 6 true 2,.tmp 7,.tmp 8] 37),
 some (.codeJ c33 [.cell 8 true 2,.tmp 9] 103),
 some (.code c34 [.tmp 10,.tmp 11] 83),
 some (.code c35 [.cell 2 true 2] 22),
 some (.code c36 [.tmp 2] 51),
 some (.code c37 [.tmp 4] 39),
 some (.code c38 [.tmp 6] 24),
 some (.codeJ c39 [.cell 4 true 2,.tmp 5] 52),
 some (.code c40 [.tmp 2] 6),
 some (.code c41 [.tmp 2] 6),
 some (.code c42 [.tmp 6,.tmp 7,.tmp 8] 61),
 some (.code c43 [.tmp 2] 44),
 some (.code c44 [.tmp 8] 59),
 some (.code c45 [.tmp 0] 10),
 some (.code c46 [.tmp 2] 9),
 some (.codeJ c47 [.tmp 4,.tmp 5] 23),
 some (.code c48 [.cell 4 true 2] 8),
 some (.code c49 [.tmp 4,.tmp 5,.tmp 6] 29),
 some (.code c50 [.tmp 4] 24),
 some (.code c51 [.cell 4 true 2,.tmp 5] 21),
 some (.code c52 [.tmp 2] 13),
 some (.codeJ c53 [.tmp 4,.tmp 5] 62),
 some (.code c54 [.tmp 4] 40),
 some (.code c55 [.tmp 4] 63),
 some (.codeJ c56 [.tmp 2] 15),
 some (.codeJ c57 [.tmp 6] 21),
 some (.code c58 [.tmp 6] 31),
 some (.code c59 [.cell 6 true 3,.tmp 7] 33),
 some (.codeJ c60 [.tmp 2,.tmp 3] 41),
 some (.code c61 [.tmp 6] 11),
 some (.code c62 [.cell 0 true 2] 2),
 some (.code c63 [.tmp 2] 4),
 some (.code c64 [.cell 6 true 2] 44),
 some (.code c65 [.cell 4 true 2] 16),
 some (.code c66 [.cell 4 true 2] 17),
 some (.code c67 [.tmp 8,.tmp 9] 47),
 some (.code c68 [.tmp 4] 16),
 some (.code c69 [.tmp 2] 10),
 some (.code c70 [.cell 2 true 2] 61),
 some (.code c71 [.tmp 4] 9),
 some (.code c72 [.tmp 3] 9),
 some (.code c73 [.tmp 4] 20),
 some (.code c74 [.tmp 4] 26),
 some (.code c75 [.tmp 4] 17),
 some (.codeJ c76 [.tmp 2] 16),
 some (.code c77 [.tmp 2,.tmp 3] 64),
 some (.codeJ c78 [.tmp 4] 24),
 some (.codeJ c79 [.tmp 4] 38),
 some (.code c80 [.tmp 2] 18),
 some (.code c81 [.tmp 4] 20),
 some (.code c82 [.tmp 4] 36),
 some (.code c83 [.tmp 2] 8),
 some (.code c84 [.tmp 2] 15),
 some (.code c85 [.tmp 4] 9),
 some (.code c86 [.cell 6 true 2] 44),
 some (.code c87 [.tmp 4] 9),
 some (.code c88 [.tmp 4] 13),
 some (.code c89 [] 19),
 some (.code c90 [.tmp 4] 9),
 some (.code c91 [.tmp 2] 6),
 some (.code c92 [.tmp 2] 32),
 some (.code c93 [.tmp 4] 19),
 some (.code c94 [] 9),
 some (.code c95 [.tmp 5] 36),
 some (.code c96 [] 11),
 some (.code c97 [] 14),
 some (.code c98 [.tmp 3] 11),
 some (.code c99 [.tmp 2] 6),
 some (.code c100 [.tmp 2] 14),
 some (.code c101 [.tmp 2] 14),
 some (.code c102 [.tmp 4] 19),
 some (.code c103 [.tmp 4] 19),
 some (.code c104 [.tmp 4] 19),
 some (.code c105 [] 63),
 some (.code c106 [] 134),
 some (.code c107 [.tmp 2] 8),
 some (.code c108 [] 148),
 some (.code c109 [] 53),
 some (.code c110 [] 220),
 some (.code c111 [] 49),
 some (.code c112 [] 56),
 some (.code c113 [] 65),
 some (.code c114 [.tmp 6,.tmp 7] 57),
 some (.code c115 [] 32),
 some (.code c116 [.tmp 6] 133),
 some (.code c117 [.tmp 4] 17),
 some (.code c118 [.tmp 8] 84),
 some (.code c119 [.tmp 8,.tmp 9] 168),
 some (.code c120 [.tmp 2] 19),
 some (.code c121 [.tmp 2] 25),
 some (.code c122 [] 53),
 some (.code c123 [] 60),
 some (.code c124 [] 67),
 some (.code c125 [.tmp 8,.tmp 9] 63),
 some (.code c126 [] 34),
 some (.code c127 [.tmp 8] 141),
 some (.code c128 [.tmp 10] 90),
 some (.code c129 [.tmp 10,.tmp 11] 178),
 some (.code c130 [] 58),
 some (.code c131 [] 76),
 some (.code c132 [.tmp 2] 7),
 some (.code c133 [.tmp 2] 33),
 some (.code c134 [.tmp 6] 15),
 some (.code c135 [.tmp 10] 36),
 some (.code c136 [] 82),
 some (.code c137 [.tmp 8] 18),
 some (.code c138 [.tmp 12] 41),
 some (.code c139 [] 38),
 some (.code c140 [.tmp 8,.tmp 9] 28),
 some (.code c141 [.tmp 10,.tmp 11] 32)]
noncomputable def tabt:Tab:=fun f=>(tabT[f]?).join
theorem tabT_ok:EntsOk Tryz.prog 0 tabT:=⟨trivial,trivial,fun2,fun3,fun4,fun5,fun6,fun7,fun8,fun9,fun10,fun11,fun12,fun13,fun14,fun15,fun16,fun17,fun18,fun19,fun20,fun21,fun22,fun23,fun24,fun25,fun26,fun27,fun28,fun29,fun30,fun31,fun32,fun33,fun34,fun35,fun36,fun37,fun38,fun39,fun40,fun41,fun42,fun43,fun44,fun45,fun46,fun47,fun48,fun49,fun50,fun51,fun52,fun53,fun54,fun55,fun56,fun57,fun58,fun59,fun60,fun61,fun62,fun63,fun64,fun65,fun66,fun67,fun68,fun69,fun70,fun71,fun72,fun73,fun74,fun75,fun76,fun77,fun78,fun79,fun80,fun81,fun82,fun83,fun84,fun85,fun86,fun87,fun88,fun89,fun90,fun91,fun92,fun93,fun94,fun95,fun96,fun97,fun98,fun99,fun100,fun101,fun102,fun103,fun104,fun105,fun106,fun107,fun108,fun109,fun110,fun111,fun112,fun113,fun114,fun115,fun116,fun117,fun118,fun119,fun120,fun121,fun122,fun123,fun124,fun125,fun126,fun127,fun128,fun129,fun130,fun131,fun132,fun133,fun134,fun135,fun136,fun137,fun138,fun139,fun140,fun141,trivial⟩
theorem tabt_ok:TabOk Tryz.prog tabt:=tabOk_of tabT_ok
end Go.Proofs.Tryz
namespace Go.Proofs.Tryz
open Go Go.V
def mA1:Memo:=⟨[.int .u64 1],[],.slice (some ⟨0,0,none⟩) 1 1,[⟨[.int .i64 0],⟨1,3⟩,false⟩]⟩
theorem mA1_ok:MemoOk Tryz.prog 56 mA1:=memo_run mixed tabt_ok 200 (by kernel_rfl) (by kernel_rfl)
def mA2:Memo:=⟨[.int .u64 2],[],.slice (some ⟨0,0,none⟩) 1 1,[⟨[.int .i64 1],⟨1,3⟩,false⟩]⟩
theorem mA2_ok:MemoOk Tryz.prog 56 mA2:=memo_run mixed tabt_ok 200 (by kernel_rfl) (by kernel_rfl)
def mA3:Memo:=⟨[.int .u64 3],[],.slice (some ⟨0,0,none⟩) 2 2,[⟨[.int .i64 0,.int .i64 1],⟨1,3⟩,false⟩]⟩
theorem mA3_ok:MemoOk Tryz.prog 56 mA3:=memo_run mixed tabt_ok 200 (by kernel_rfl) (by kernel_rfl)
def mA4:Memo:=⟨[.int .u64 4],[],.slice (some ⟨0,0,none⟩) 1 1,[⟨[.int .i64 2],⟨1,3⟩,false⟩]⟩
theorem mA4_ok:MemoOk Tryz.prog 56 mA4:=memo_run mixed tabt_ok 200 (by kernel_rfl) (by kernel_rfl)
def mA5:Memo:=⟨[.int .u64 5],[],.slice (some ⟨0,0,none⟩) 2 2,[⟨[.int .i64 0,.int .i64 2],⟨1,3⟩,false⟩]⟩
theorem mA5_ok:MemoOk Tryz.prog 56 mA5:=memo_run mixed tabt_ok 200 (by kernel_rfl) (by kernel_rfl)
def mA6:Memo:=⟨[.int .u64 6],[],.slice (some ⟨0,0,none⟩) 2 2,[⟨[.int .i64 1,.int .i64 2],⟨1,3⟩,false⟩]⟩
theorem mA6_ok:MemoOk Tryz.prog 56 mA6:=memo_run mixed tabt_ok 200 (by kernel_rfl) (by kernel_rfl)
def mA7:Memo:=⟨[.int .u64 7],[],.slice (some ⟨0,0,none⟩) 3 3,[⟨[.int .i64 0,.int .i64 1,.int .i64 2],⟨1,3⟩,false⟩]⟩
theorem mA7_ok:MemoOk Tryz.prog 56 mA7:=memo_run mixed tabt_ok 200 (by kernel_rfl) (by kernel_rfl)
def mA8:Memo:=⟨[.int .u64 8],[],.slice (some ⟨0,0,none⟩) 1 1,[⟨[.int .i64 3],⟨1,3⟩,false⟩]⟩
theorem mA8_ok:MemoOk Tryz.prog 56 mA8:=memo_run mixed tabt_ok 200 (by kernel_rfl) (by kernel_rfl)
def mA9:Memo:=⟨[.int .u64 9],[],.slice (some ⟨0,0,none⟩) 2 2,[⟨[.int .i64 0,.int .i64 3],⟨1,3⟩,false⟩]⟩
theorem mA9_ok:MemoOk Tryz.prog 56 mA9:=memo_run mixed tabt_ok 200 (by kernel_rfl) (by kernel_rfl)
def mA10:Memo:=⟨[.int .u64 10],[],.slice (some ⟨0,0,none⟩) 2 2,[⟨[.int .i64 1,.int .i64 3],⟨1,3⟩,false⟩]⟩
theorem mA10_ok:MemoOk Tryz.prog 56 mA10:=memo_run mixed tabt_ok 200 (by kernel_rfl) (by kernel_rfl)
def mA11:Memo:=⟨[.int .u64 11],[],.slice (some ⟨0,0,none⟩) 3 3,[⟨[.int .i64 0,.int .i64 1,.int .i64 3],⟨1,3⟩,false⟩]⟩
theorem mA11_ok:MemoOk Tryz.prog 56 mA11:=memo_run mixed tabt_ok 200 (by kernel_rfl) (by kernel_rfl)
def mA12:Memo:=⟨[.int .u64 12],[],.slice (some ⟨0,0,none⟩) 2 2,[⟨[.int .i64 2,.int .i64 3],⟨1,3⟩,false⟩]⟩
theorem mA12_ok:MemoOk Tryz.prog 56 mA12:=memo_run mixed tabt_ok 200 (by kernel_rfl) (by kernel_rfl)
def mA13:Memo:=⟨[.int .u64 13],[],.slice (some ⟨0,0,none⟩) 3 3,[⟨[.int .i64 0,.int .i64 2,.int .i64 3],⟨1,3⟩,false⟩]⟩
theorem mA13_ok:MemoOk Tryz.prog 56 mA13:=memo_run mixed tabt_ok 200 (by kernel_rfl) (by kernel_rfl)
def mA14:Memo:=⟨[.int .u64 14],[],.slice (some ⟨0,0,none⟩) 3 3,[⟨[.int .i64 1,.int .i64 2,.int .i64 3],⟨1,3⟩,false⟩]⟩
theorem mA14_ok:MemoOk Tryz.prog 56 mA14:=memo_run mixed tabt_ok 200 (by kernel_rfl) (by kernel_rfl)
def mA15:Memo:=⟨[.int .u64 15],[],.slice (some ⟨0,0,none⟩) 4 4,[⟨[.int .i64 0,.int .i64 1,.int .i64 2,.int .i64 3],⟨1,3⟩,false⟩]⟩
theorem mA15_ok:MemoOk Tryz.prog 56 mA15:=memo_run mixed tabt_ok 200 (by kernel_rfl) (by kernel_rfl)
end Go.Proofs.Tryz
namespace Go.Proofs.Tryz
open Go Go.V
def mL1_20:Memo:=⟨[.agg #[.slice (some ⟨0,0,none⟩) 4 4,.int .i64 20],.int .u64 1],[⟨[.int .i64 1,.int .i64 100,.int .i64 110,.int .i64 500,.int .i64 1,.int .i64 105,.int .i64 112,.int .i64 300,.int .i64 1,.int .i64 108,.int .i64 125,.int .i64 400,.int .i64 1,.int .i64 120,.int .i64 130,.int .i64 600],⟨4,78⟩,true⟩],.bool true,[]⟩
theorem mL1_20_ok:MemoOk Tryz.prog 79 mL1_20:=memo_run mixed tabt_ok 200 (by kernel_rfl) (by kernel_rfl)
def mL2_20:Memo:=⟨[.agg #[.slice (some ⟨0,0,none⟩) 4 4,.int .i64 20],.int .u64 2],[⟨[.int .i64 1,.int .i64 100,.int .i64 110,.int .i64 500,.int .i64 1,.int .i64 105,.int .i64 112,.int .i64 300,.int .i64 1,.int .i64 108,.int .i64 125,.int .i64 400,.int .i64 1,.int .i64 120,.int .i64 130,.int .i64 600],⟨4,78⟩,true⟩],.bool true,[]⟩
theorem mL2_20_ok:MemoOk Tryz.prog 79 mL2_20:=memo_run mixed tabt_ok 200 (by kernel_rfl) (by kernel_rfl)
def mL3_20:Memo:=⟨[.agg #[.slice (some ⟨0,0,none⟩) 4 4,.int .i64 20],.int .u64 3],[⟨[.int .i64 1,.int .i64 100,.int .i64 110,.int .i64 500,.int .i64 1,.int .i64 105,.int .i64 112,.int .i64 300,.int .i64 1,.int .i64 108,.int .i64 125,.int .i64 400,.int .i64 1,.int .i64 120,.int .i64 130,.int .i64 600],⟨4,78⟩,true⟩],.bool true,[]⟩
theorem mL3_20_ok:MemoOk Tryz.prog 79 mL3_20:=memo_run mixed tabt_ok 200 (by kernel_rfl) (by kernel_rfl)
def mL4_20:Memo:=⟨[.agg #[.slice (some ⟨0,0,none⟩) 4 4,.int .i64 20],.int .u64 4],[⟨[.int .i64 1,.int .i64 100,.int .i64 110,.int .i64 500,.int .i64 1,.int .i64 105,.int .i64 112,.int .i64 300,.int .i64 1,.int .i64 108,.int .i64 125,.int .i64 400,.int .i64 1,.int .i64 120,.int .i64 130,.int .i64 600],⟨4,78⟩,true⟩],.bool true,[]⟩
theorem mL4_20_ok:MemoOk Tryz.prog 79 mL4_20:=memo_run mixed tabt_ok 200 (by kernel_rfl) (by kernel_rfl)
def mL5_20:Memo:=⟨[.agg #[.slice (some ⟨0,0,none⟩) 4 4,.int .i64 20],.int .u64 5],[⟨[.int .i64 1,.int .i64 100,.int .i64 110,.int .i64 500,.int .i64 1,.int .i64 105,.int .i64 112,.int .i64 300,.int .i64 1,.int .i64 108,.int .i64 125,.int .i64 400,.int .i64 1,.int .i64 120,.int .i64 130,.int .i64 600],⟨4,78⟩,true⟩],.bool false,[]⟩
theorem mL5_20_ok:MemoOk Tryz.prog 79 mL5_20:=memo_run mixed tabt_ok 200 (by kernel_rfl) (by kernel_rfl)
def mL6_20:Memo:=⟨[.agg #[.slice (some ⟨0,0,none⟩) 4 4,.int .i64 20],.int .u64 6],[⟨[.int .i64 1,.int .i64 100,.int .i64 110,.int .i64 500,.int .i64 1,.int .i64 105,.int .i64 112,.int .i64 300,.int .i64 1,.int .i64 108,.int .i64 125,.int .i64 400,.int .i64 1,.int .i64 120,.int .i64 130,.int .i64 600],⟨4,78⟩,true⟩],.bool true,[]⟩
theorem mL6_20_ok:MemoOk Tryz.prog 79 mL6_20:=memo_run mixed tabt_ok 200 (by kernel_rfl) (by kernel_rfl)
def mL7_20:Memo:=⟨[.agg #[.slice (some ⟨0,0,none⟩) 4 4,.int .i64 20],.int .u64 7],[⟨[.int .i64 1,.int .i64 100,.int .i64 110,.int .i64 500,.int .i64 1,.int .i64 105,.int .i64 112,.int .i64 300,.int .i64 1,.int .i64 108,.int .i64 125,.int .i64 400,.int .i64 1,.int .i64 120,.int .i64 130,.int .i64 600],⟨4,78⟩,true⟩],.bool false,[]⟩
theorem mL7_20_ok:MemoOk Tryz.prog 79 mL7_20:=memo_run mixed tabt_ok 200 (by kernel_rfl) (by kernel_rfl)
def mL8_20:Memo:=⟨[.agg #[.slice (some ⟨0,0,none⟩) 4 4,.int .i64 20],.int .u64 8],[⟨[.int .i64 1,.int .i64 100,.int .i64 110,.int .i64 500,.int .i64 1,.int .i64 105,.int .i64 112,.int .i64 300,.int .i64 1,.int .i64 108,.int .i64 125,.int .i64 400,.int .i64 1,.int .i64 120,.int .i64 130,.int .i64 600],⟨4,78⟩,true⟩],.bool true,[]⟩
theorem mL8_20_ok:MemoOk Tryz.prog 79 mL8_20:=memo_run mixed tabt_ok 200 (by kernel_rfl) (by kernel_rfl)
def mL9_20:Memo:=⟨[.agg #[.slice (some ⟨0,0,none⟩) 4 4,.int .i64 20],.int .u64 9],[⟨[.int .i64 1,.int .i64 100,.int .i64 110,.int .i64 500,.int .i64 1,.int .i64 105,.int .i64 112,.int .i64 300,.int .i64 1,.int .i64 108,.int .i64 125,.int .i64 400,.int .i64 1,.int .i64 120,.int .i64 130,.int .i64 600],⟨4,78⟩,true⟩],.bool false,[]⟩
theorem mL9_20_ok:MemoOk Tryz.prog 79 mL9_20:=memo_run mixed tabt_ok 200 (by kernel_rfl) (by kernel_rfl)
def mL10_20:Memo:=⟨[.agg #[.slice (some ⟨0,0,none⟩) 4 4,.int .i64 20],.int .u64 10],[⟨[.int .i64 1,.int .i64 100,.int .i64 110,.int .i64 500,.int .i64 1,.int .i64 105,.int .i64 112,.int .i64 300,.int .i64 1,.int .i64 108,.int .i64 125,.int .i64 400,.int .i64 1,.int .i64 120,.int .i64 130,.int .i64 600],⟨4,78⟩,true⟩],.bool false,[]⟩
theorem mL10_20_ok:MemoOk Tryz.prog 79 mL10_20:=memo_run mixed tabt_ok 200 (by kernel_rfl) (by kernel_rfl)
def mL11_20:Memo:=⟨[.agg #[.slice (some ⟨0,0,none⟩) 4 4,.int .i64 20],.int .u64 11],[⟨[.int .i64 1,.int .i64 100,.int .i64 110,.int .i64 500,.int .i64 1,.int .i64 105,.int .i64 112,.int .i64 300,.int .i64 1,.int .i64 108,.int .i64 125,.int .i64 400,.int .i64 1,.int .i64 120,.int .i64 130,.int .i64 600],⟨4,78⟩,true⟩],.bool false,[]⟩
theorem mL11_20_ok:MemoOk Tryz.prog 79 mL11_20:=memo_run mixed tabt_ok 200 (by kernel_rfl) (by kernel_rfl)
def mL12_20:Memo:=⟨[.agg #[.slice (some ⟨0,0,none⟩) 4 4,.int .i64 20],.int .u64 12],[⟨[.int .i64 1,.int .i64 100,.int .i64 110,.int .i64 500,.int .i64 1,.int .i64 105,.int .i64 112,.int .i64 300,.int .i64 1,.int .i64 108,.int .i64 125,.int .i64 400,.int .i64 1,.int .i64 120,.int .i64 130,.int .i64 600],⟨4,78⟩,true⟩],.bool false,[]⟩
theorem mL12_20_ok:MemoOk Tryz.prog 79 mL12_20:=memo_run mixed tabt_ok 200 (by kernel_rfl) (by kernel_rfl)
def mL13_20:Memo:=⟨[.agg #[.slice (some ⟨0,0,none⟩) 4 4,.int .i64 20],.int .u64 13],[⟨[.int .i64 1,.int .i64 100,.int .i64 110,.int .i64 500,.int .i64 1,.int .i64 105,.int .i64 112,.int .i64 300,.int .i64 1,.int .i64 108,.int .i64 125,.int .i64 400,.int .i64 1,.int .i64 120,.int .i64 130,.int .i64 600],⟨4,78⟩,true⟩],.bool false,[]⟩
theorem mL13_20_ok:MemoOk Tryz.prog 79 mL13_20:=memo_run mixed tabt_ok 200 (by kernel_rfl) (by kernel_rfl)
def mL14_20:Memo:=⟨[.agg #[.slice (some ⟨0,0,none⟩) 4 4,.int .i64 20],.int .u64 14],[⟨[.int .i64 1,.int .i64 100,.int .i64 110,.int .i64 500,.int .i64 1,.int .i64 105,.int .i64 112,.int .i64 300,.int .i64 1,.int .i64 108,.int .i64 125,.int .i64 400,.int .i64 1,.int .i64 120,.int .i64 130,.int .i64 600],⟨4,78⟩,true⟩],.bool false,[]⟩
theorem mL14_20_ok:MemoOk Tryz.prog 79 mL14_20:=memo_run mixed tabt_ok 200 (by kernel_rfl) (by kernel_rfl)
def mL15_20:Memo:=⟨[.agg #[.slice (some ⟨0,0,none⟩) 4 4,.int .i64 20],.int .u64 15],[⟨[.int .i64 1,.int .i64 100,.int .i64 110,.int .i64 500,.int .i64 1,.int .i64 105,.int .i64 112,.int .i64 300,.int .i64 1,.int .i64 108,.int .i64 125,.int .i64 400,.int .i64 1,.int .i64 120,.int .i64 130,.int .i64 600],⟨4,78⟩,true⟩],.bool false,[]⟩
theorem mL15_20_ok:MemoOk Tryz.prog 79 mL15_20:=memo_run mixed tabt_ok 200 (by kernel_rfl) (by kernel_rfl)
def mL1_25:Memo:=⟨[.agg #[.slice (some ⟨0,0,none⟩) 4 4,.int .i64 25],.int .u64 1],[⟨[.int .i64 1,.int .i64 100,.int .i64 110,.int .i64 500,.int .i64 1,.int .i64 105,.int .i64 112,.int .i64 300,.int .i64 1,.int .i64 108,.int .i64 125,.int .i64 400,.int .i64 1,.int .i64 120,.int .i64 130,.int .i64 600],⟨4,78⟩,true⟩],.bool true,[]⟩
theorem mL1_25_ok:MemoOk Tryz.prog 79 mL1_25:=memo_run mixed tabt_ok 200 (by kernel_rfl) (by kernel_rfl)
def mL2_25:Memo:=⟨[.agg #[.slice (some ⟨0,0,none⟩) 4 4,.int .i64 25],.int .u64 2],[⟨[.int .i64 1,.int .i64 100,.int .i64 110,.int .i64 500,.int .i64 1,.int .i64 105,.int .i64 112,.int .i64 300,.int .i64 1,.int .i64 108,.int .i64 125,.int .i64 400,.int .i64 1,.int .i64 120,.int .i64 130,.int .i64 600],⟨4,78⟩,true⟩],.bool true,[]⟩
theorem mL2_25_ok:MemoOk Tryz.prog 79 mL2_25:=memo_run mixed tabt_ok 200 (by kernel_rfl) (by kernel_rfl)
def mL3_25:Memo:=⟨[.agg #[.slice (some ⟨0,0,none⟩) 4 4,.int .i64 25],.int .u64 3],[⟨[.int .i64 1,.int .i64 100,.int .i64 110,.int .i64 500,.int .i64 1,.int .i64 105,.int .i64 112,.int .i64 300,.int .i64 1,.int .i64 108,.int .i64 125,.int .i64 400,.int .i64 1,.int .i64 120,.int .i64 130,.int .i64 600],⟨4,78⟩,true⟩],.bool true,[]⟩
theorem mL3_25_ok:MemoOk Tryz.prog 79 mL3_25:=memo_run mixed tabt_ok 200 (by kernel_rfl) (by kernel_rfl)
def mL4_25:Memo:=⟨[.agg #[.slice (some ⟨0,0,none⟩) 4 4,.int .i64 25],.int .u64 4],[⟨[.int .i64 1,.int .i64 100,.int .i64 110,.int .i64 500,.int .i64 1,.int .i64 105,.int .i64 112,.int .i64 300,.int .i64 1,.int .i64 108,.int .i64 125,.int .i64 400,.int .i64 1,.int .i64 120,.int .i64 130,.int .i64 600],⟨4,78⟩,true⟩],.bool true,[]⟩
theorem mL4_25_ok:MemoOk Tryz.prog 79 mL4_25:=memo_run mixed tabt_ok 200 (by kernel_rfl) (by kernel_rfl)
def mL5_25:Memo:=⟨[.agg #[.slice (some ⟨0,0,none⟩) 4 4,.int .i64 25],.int .u64 5],[⟨[.int .i64 1,.int .i64 100,.int .i64 110,.int .i64 500,.int .i64 1,.int .i64 105,.int .i64 112,.int .i64 300,.int .i64 1,.int .i64 108,.int .i64 125,.int .i64 400,.int .i64 1,.int .i64 120,.int .i64 130,.int .i64 600],⟨4,78⟩,true⟩],.bool true,[]⟩
theorem mL5_25_ok:MemoOk Tryz.prog 79 mL5_25:=memo_run mixed tabt_ok 200 (by kernel_rfl) (by kernel_rfl)
def mL6_25:Memo:=⟨[.agg #[.slice (some ⟨0,0,none⟩) 4 4,.int .i64 25],.int .u64 6],[⟨[.int .i64 1,.int .i64 100,.int .i64 110,.int .i64 500,.int .i64 1,.int .i64 105,.int .i64 112,.int .i64 300,.int .i64 1,.int .i64 108,.int .i64 125,.int .i64 400,.int .i64 1,.int .i64 120,.int .i64 130,.int .i64 600],⟨4,78⟩,true⟩],.bool true,[]⟩
theorem mL6_25_ok:MemoOk Tryz.prog 79 mL6_25:=memo_run mixed tabt_ok 200 (by kernel_rfl) (by kernel_rfl)
def mL8_25:Memo:=⟨[.agg #[.slice (some ⟨0,0,none⟩) 4 4,.int .i64 25],.int .u64 8],[⟨[.int .i64 1,.int .i64 100,.int .i64 110,.int .i64 500,.int .i64 1,.int .i64 105,.int .i64 112,.int .i64 300,.int .i64 1,.int .i64 108,.int .i64 125,.int .i64 400,.int .i64 1,.int .i64 120,.int .i64 130,.int .i64 600],⟨4,78⟩,true⟩],.bool true,[]⟩
theorem mL8_25_ok:MemoOk Tryz.prog 79 mL8_25:=memo_run mixed tabt_ok 200 (by kernel_rfl) (by kernel_rfl)
def mL9_25:Memo:=⟨[.agg #[.slice (some ⟨0,0,none⟩) 4 4,.int .i64 25],.int .u64 9],[⟨[.int .i64 1,.int .i64 100,.int .i64 110,.int .i64 500,.int .i64 1,.int .i64 105,.int .i64 112,.int .i64 300,.int .i64 1,.int .i64 108,.int .i64 125,.int .i64 400,.int .i64 1,.int .i64 120,.int .i64 130,.int .i64 600],⟨4,78⟩,true⟩],.bool false,[]⟩
theorem mL9_25_ok:MemoOk Tryz.prog 79 mL9_25:=memo_run mixed tabt_ok 200 (by kernel_rfl) (by kernel_rfl)
def mL10_25:Memo:=⟨[.agg #[.slice (some ⟨0,0,none⟩) 4 4,.int .i64 25],.int .u64 10],[⟨[.int .i64 1,.int .i64 100,.int .i64 110,.int .i64 500,.int .i64 1,.int .i64 105,.int .i64 112,.int .i64 300,.int .i64 1,.int .i64 108,.int .i64 125,.int .i64 400,.int .i64 1,.int .i64 120,.int .i64 130,.int .i64 600],⟨4,78⟩,true⟩],.bool true,[]⟩
theorem mL10_25_ok:MemoOk Tryz.prog 79 mL10_25:=memo_run mixed tabt_ok 200 (by kernel_rfl) (by kernel_rfl)
def mL12_25:Memo:=⟨[.agg #[.slice (some ⟨0,0,none⟩) 4 4,.int .i64 25],.int .u64 12],[⟨[.int .i64 1,.int .i64 100,.int .i64 110,.int .i64 500,.int .i64 1,.int .i64 105,.int .i64 112,.int .i64 300,.int .i64 1,.int .i64 108,.int .i64 125,.int .i64 400,.int .i64 1,.int .i64 120,.int .i64 130,.int .i64 600],⟨4,78⟩,true⟩],.bool true,[]⟩
theorem mL12_25_ok:MemoOk Tryz.prog 79 mL12_25:=memo_run mixed tabt_ok 200 (by kernel_rfl) (by kernel_rfl)
def mL1_16:Memo:=⟨[.agg #[.slice (some ⟨0,0,none⟩) 4 4,.int .i64 16],.int .u64 1],[⟨[.int .i64 1,.int .i64 100,.int .i64 110,.int .i64 500,.int .i64 1,.int .i64 105,.int .i64 112,.int .i64 300,.int .i64 1,.int .i64 108,.int .i64 125,.int .i64 400,.int .i64 1,.int .i64 120,.int .i64 130,.int .i64 600],⟨4,78⟩,true⟩],.bool true,[]⟩
theorem mL1_16_ok:MemoOk Tryz.prog 79 mL1_16:=memo_run mixed tabt_ok 200 (by kernel_rfl) (by kernel_rfl)
def mL2_16:Memo:=⟨[.agg #[.slice (some ⟨0,0,none⟩) 4 4,.int .i64 16],.int .u64 2],[⟨[.int .i64 1,.int .i64 100,.int .i64 110,.int .i64 500,.int .i64 1,.int .i64 105,.int .i64 112,.int .i64 300,.int .i64 1,.int .i64 108,.int .i64 125,.int .i64 400,.int .i64 1,.int .i64 120,.int .i64 130,.int .i64 600],⟨4,78⟩,true⟩],.bool true,[]⟩
theorem mL2_16_ok:MemoOk Tryz.prog 79 mL2_16:=memo_run mixed tabt_ok 200 (by kernel_rfl) (by kernel_rfl)
def mL4_16:Memo:=⟨[.agg #[.slice (some ⟨0,0,none⟩) 4 4,.int .i64 16],.int .u64 4],[⟨[.int .i64 1,.int .i64 100,.int .i64 110,.int .i64 500,.int .i64 1,.int .i64 105,.int .i64 112,.int .i64 300,.int .i64 1,.int .i64 108,.int .i64 125,.int .i64 400,.int .i64 1,.int .i64 120,.int .i64 130,.int .i64 600],⟨4,78⟩,true⟩],.bool false,[]⟩
theorem mL4_16_ok:MemoOk Tryz.prog 79 mL4_16:=memo_run mixed tabt_ok 200 (by kernel_rfl) (by kernel_rfl)
def mL8_16:Memo:=⟨[.agg #[.slice (some ⟨0,0,none⟩) 4 4,.int .i64 16],.int .u64 8],[⟨[.int .i64 1,.int .i64 100,.int .i64 110,.int .i64 500,.int .i64 1,.int .i64 105,.int .i64 112,.int .i64 300,.int .i64 1,.int .i64 108,.int .i64 125,.int .i64 400,.int .i64 1,.int .i64 120,.int .i64 130,.int .i64 600],⟨4,78⟩,true⟩],.bool true,[]⟩
theorem mL8_16_ok:MemoOk Tryz.prog 79 mL8_16:=memo_run mixed tabt_ok 200 (by kernel_rfl) (by kernel_rfl)
end Go.Proofs.Tryz
namespace Go.Proofs.Tryz
open Go Go.V
def mG1:Memo:=⟨[.agg #[.slice (some ⟨0,0,none⟩) 4 4,.int .i64 20],.int .u64 1],[⟨[.int .i64 1,.int .i64 100,.int .i64 110,.int .i64 500,.int .i64 1,.int .i64 105,.int .i64 112,.int .i64 300,.int .i64 1,.int .i64 108,.int .i64 125,.int .i64 400,.int .i64 1,.int .i64 120,.int .i64 130,.int .i64 600],⟨4,78⟩,true⟩],.int .i64 500,[]⟩
theorem mG1_ok:MemoOk Tryz.prog 78 mG1:=memo_run mixed tabt_ok 200 (by kernel_rfl) (by kernel_rfl)
def mG2:Memo:=⟨[.agg #[.slice (some ⟨0,0,none⟩) 4 4,.int .i64 20],.int .u64 2],[⟨[.int .i64 1,.int .i64 100,.int .i64 110,.int .i64 500,.int .i64 1,.int .i64 105,.int .i64 112,.int .i64 300,.int .i64 1,.int .i64 108,.int .i64 125,.int .i64 400,.int .i64 1,.int .i64 120,.int .i64 130,.int .i64 600],⟨4,78⟩,true⟩],.int .i64 300,[]⟩
theorem mG2_ok:MemoOk Tryz.prog 78 mG2:=memo_run mixed tabt_ok 200 (by kernel_rfl) (by kernel_rfl)
def mG3:Memo:=⟨[.agg #[.slice (some ⟨0,0,none⟩) 4 4,.int .i64 20],.int .u64 3],[⟨[.int .i64 1,.int .i64 100,.int .i64 110,.int .i64 500,.int .i64 1,.int .i64 105,.int .i64 112,.int .i64 300,.int .i64 1,.int .i64 108,.int .i64 125,.int .i64 400,.int .i64 1,.int .i64 120,.int .i64 130,.int .i64 600],⟨4,78⟩,true⟩],.int .i64 800,[]⟩
theorem mG3_ok:MemoOk Tryz.prog 78 mG3:=memo_run mixed tabt_ok 200 (by kernel_rfl) (by kernel_rfl)
def mG4:Memo:=⟨[.agg #[.slice (some ⟨0,0,none⟩) 4 4,.int .i64 20],.int .u64 4],[⟨[.int .i64 1,.int .i64 100,.int .i64 110,.int .i64 500,.int .i64 1,.int .i64 105,.int .i64 112,.int .i64 300,.int .i64 1,.int .i64 108,.int .i64 125,.int .i64 400,.int .i64 1,.int .i64 120,.int .i64 130,.int .i64 600],⟨4,78⟩,true⟩],.int .i64 400,[]⟩
theorem mG4_ok:MemoOk Tryz.prog 78 mG4:=memo_run mixed tabt_ok 200 (by kernel_rfl) (by kernel_rfl)
def mG5:Memo:=⟨[.agg #[.slice (some ⟨0,0,none⟩) 4 4,.int .i64 20],.int .u64 5],[⟨[.int .i64 1,.int .i64 100,.int .i64 110,.int .i64 500,.int .i64 1,.int .i64 105,.int .i64 112,.int .i64 300,.int .i64 1,.int .i64 108,.int .i64 125,.int .i64 400,.int .i64 1,.int .i64 120,.int .i64 130,.int .i64 600],⟨4,78⟩,true⟩],.int .i64 900,[]⟩
theorem mG5_ok:MemoOk Tryz.prog 78 mG5:=memo_run mixed tabt_ok 200 (by kernel_rfl) (by kernel_rfl)
def mG6:Memo:=⟨[.agg #[.slice (some ⟨0,0,none⟩) 4 4,.int .i64 20],.int .u64 6],[⟨[.int .i64 1,.int .i64 100,.int .i64 110,.int .i64 500,.int .i64 1,.int .i64 105,.int .i64 112,.int .i64 300,.int .i64 1,.int .i64 108,.int .i64 125,.int .i64 400,.int .i64 1,.int .i64 120,.int .i64 130,.int .i64 600],⟨4,78⟩,true⟩],.int .i64 700,[]⟩
theorem mG6_ok:MemoOk Tryz.prog 78 mG6:=memo_run mixed tabt_ok 200 (by kernel_rfl) (by kernel_rfl)
def mG7:Memo:=⟨[.agg #[.slice (some ⟨0,0,none⟩) 4 4,.int .i64 20],.int .u64 7],[⟨[.int .i64 1,.int .i64 100,.int .i64 110,.int .i64 500,.int .i64 1,.int .i64 105,.int .i64 112,.int .i64 300,.int .i64 1,.int .i64 108,.int .i64 125,.int .i64 400,.int .i64 1,.int .i64 120,.int .i64 130,.int .i64 600],⟨4,78⟩,true⟩],.int .i64 1200,[]⟩
theorem mG7_ok:MemoOk Tryz.prog 78 mG7:=memo_run mixed tabt_ok 200 (by kernel_rfl) (by kernel_rfl)
def mG8:Memo:=⟨[.agg #[.slice (some ⟨0,0,none⟩) 4 4,.int .i64 20],.int .u64 8],[⟨[.int .i64 1,.int .i64 100,.int .i64 110,.int .i64 500,.int .i64 1,.int .i64 105,.int .i64 112,.int .i64 300,.int .i64 1,.int .i64 108,.int .i64 125,.int .i64 400,.int .i64 1,.int .i64 120,.int .i64 130,.int .i64 600],⟨4,78⟩,true⟩],.int .i64 600,[]⟩
theorem mG8_ok:MemoOk Tryz.prog 78 mG8:=memo_run mixed tabt_ok 200 (by kernel_rfl) (by kernel_rfl)
def mG9:Memo:=⟨[.agg #[.slice (some ⟨0,0,none⟩) 4 4,.int .i64 20],.int .u64 9],[⟨[.int .i64 1,.int .i64 100,.int .i64 110,.int .i64 500,.int .i64 1,.int .i64 105,.int .i64 112,.int .i64 300,.int .i64 1,.int .i64 108,.int .i64 125,.int .i64 400,.int .i64 1,.int .i64 120,.int .i64 130,.int .i64 600],⟨4,78⟩,true⟩],.int .i64 1100,[]⟩
theorem mG9_ok:MemoOk Tryz.prog 78 mG9:=memo_run mixed tabt_ok 200 (by kernel_rfl) (by kernel_rfl)
def mG10:Memo:=⟨[.agg #[.slice (some ⟨0,0,none⟩) 4 4,.int .i64 20],.int .u64 10],[⟨[.int .i64 1,.int .i64 100,.int .i64 110,.int .i64 500,.int .i64 1,.int .i64 105,.int .i64 112,.int .i64 300,.int .i64 1,.int .i64 108,.int .i64 125,.int .i64 400,.int .i64 1,.int .i64 120,.int .i64 130,.int .i64 600],⟨4,78⟩,true⟩],.int .i64 900,[]⟩
theorem mG10_ok:MemoOk Tryz.prog 78 mG10:=memo_run mixed tabt_ok 200 (by kernel_rfl) (by kernel_rfl)
def mG11:Memo:=⟨[.agg #[.slice (some ⟨0,0,none⟩) 4 4,.int .i64 20],.int .u64 11],[⟨[.int .i64 1,.int .i64 100,.int .i64 110,.int .i64 500,.int .i64 1,.int .i64 105,.int .i64 112,.int .i64 300,.int .i64 1,.int .i64 108,.int .i64 125,.int .i64 400,.int .i64 1,.int .i64 120,.int .i64 130,.int .i64 600],⟨4,78⟩,true⟩],.int .i64 1400,[]⟩
theorem mG11_ok:MemoOk Tryz.prog 78 mG11:=memo_run mixed tabt_ok 200 (by kernel_rfl) (by kernel_rfl)
def mG12:Memo:=⟨[.agg #[.slice (some ⟨0,0,none⟩) 4 4,.int .i64 20],.int .u64 12],[⟨[.int .i64 1,.int .i64 100,.int .i64 110,.int .i64 500,.int .i64 1,.int .i64 105,.int .i64 112,.int .i64 300,.int .i64 1,.int .i64 108,.int .i64 125,.int .i64 400,.int .i64 1,.int .i64 120,.int .i64 130,.int .i64 600],⟨4,78⟩,true⟩],.int .i64 1000,[]⟩
theorem mG12_ok:MemoOk Tryz.prog 78 mG12:=memo_run mixed tabt_ok 200 (by kernel_rfl) (by kernel_rfl)
def mG13:Memo:=⟨[.agg #[.slice (some ⟨0,0,none⟩) 4 4,.int .i64 20],.int .u64 13],[⟨[.int .i64 1,.int .i64 100,.int .i64 110,.int .i64 500,.int .i64 1,.int .i64 105,.int .i64 112,.int .i64 300,.int .i64 1,.int .i64 108,.int .i64 125,.int .i64 400,.int .i64 1,.int .i64 120,.int .i64 130,.int .i64 600],⟨4,78⟩,true⟩],.int .i64 1500,[]⟩
theorem mG13_ok:MemoOk Tryz.prog 78 mG13:=memo_run mixed tabt_ok 200 (by kernel_rfl) (by kernel_rfl)
def mG14:Memo:=⟨[.agg #[.slice (some ⟨0,0,none⟩) 4 4,.int .i64 20],.int .u64 14],[⟨[.int .i64 1,.int .i64 100,.int .i64 110,.int .i64 500,.int .i64 1,.int .i64 105,.int .i64 112,.int .i64 300,.int .i64 1,.int .i64 108,.int .i64 125,.int .i64 400,.int .i64 1,.int .i64 120,.int .i64 130,.int .i64 600],⟨4,78⟩,true⟩],.int .i64 1300,[]⟩
theorem mG14_ok:MemoOk Tryz.prog 78 mG14:=memo_run mixed tabt_ok 200 (by kernel_rfl) (by kernel_rfl)
def mG15:Memo:=⟨[.agg #[.slice (some ⟨0,0,none⟩) 4 4,.int .i64 20],.int .u64 15],[⟨[.int .i64 1,.int .i64 100,.int .i64 110,.int .i64 500,.int .i64 1,.int .i64 105,.int .i64 112,.int .i64 300,.int .i64 1,.int .i64 108,.int .i64 125,.int .i64 400,.int .i64 1,.int .i64 120,.int .i64 130,.int .i64 600],⟨4,78⟩,true⟩],.int .i64 1800,[]⟩
theorem mG15_ok:MemoOk Tryz.prog 78 mG15:=memo_run mixed tabt_ok 200 (by kernel_rfl) (by kernel_rfl)
end Go.Proofs.Tryz
namespace Go.Proofs.Tryz
open Go Go.V
def memos1:List Memo:=[mA1,mA2,mA3,mA4,mA5,mA6,mA7,mA8,mA9,mA10,mA11,mA12,mA13,mA14,mA15]
theorem memos1_ok:∀ m∈memos1,MemoOk Tryz.prog 56 m:=by
 intro m hm;simp only[memos1,List.mem_cons,List.not_mem_nil,or_false] at hm;rcases hm with rfl|rfl|rfl|rfl|rfl|rfl|rfl|rfl|rfl|rfl|rfl|rfl|rfl|rfl|rfl
 ·exact mA1_ok
 ·exact mA2_ok
 ·exact mA3_ok
 ·exact mA4_ok
 ·exact mA5_ok
 ·exact mA6_ok
 ·exact mA7_ok
 ·exact mA8_ok
 ·exact mA9_ok
 ·exact mA10_ok
 ·exact mA11_ok
 ·exact mA12_ok
 ·exact mA13_ok
 ·exact mA14_ok
 ·exact mA15_ok
def memos2:List Memo:=[mL1_20,mL2_20,mL3_20,mL4_20,mL5_20,mL6_20,mL7_20,mL8_20,mL9_20,mL10_20,mL11_20,mL12_20,mL13_20,mL14_20,mL15_20,mL1_25,mL2_25,mL3_25,mL4_25,mL5_25,mL6_25,mL8_25,mL9_25,mL10_25,mL12_25,mL1_16,mL2_16,mL4_16,mL8_16]
theorem memos2_ok:∀ m∈memos2,MemoOk Tryz.prog 79 m:=by
 intro m hm;simp only[memos2,List.mem_cons,List.not_mem_nil,or_false] at hm;rcases hm with rfl|rfl|rfl|rfl|rfl|rfl|rfl|rfl|rfl|rfl|rfl|rfl|rfl|rfl|rfl|rfl|rfl|rfl|rfl|rfl|rfl|rfl|rfl|rfl|rfl|rfl|rfl|rfl|rfl
 ·exact mL1_20_ok
 ·exact mL2_20_ok
 ·exact mL3_20_ok
 ·exact mL4_20_ok
 ·exact mL5_20_ok
 ·exact mL6_20_ok
 ·exact mL7_20_ok
 ·exact mL8_20_ok
 ·exact mL9_20_ok
 ·exact mL10_20_ok
 ·exact mL11_20_ok
 ·exact mL12_20_ok
 ·exact mL13_20_ok
 ·exact mL14_20_ok
 ·exact mL15_20_ok
 ·exact mL1_25_ok
 ·exact mL2_25_ok
 ·exact mL3_25_ok
 ·exact mL4_25_ok
 ·exact mL5_25_ok
 ·exact mL6_25_ok
 ·exact mL8_25_ok
 ·exact mL9_25_ok
 ·exact mL10_25_ok
 ·exact mL12_25_ok
 ·exact mL1_16_ok
 ·exact mL2_16_ok
 ·exact mL4_16_ok
 ·exact mL8_16_ok
def memos3:List Memo:=[mG1,mG2,mG3,mG4,mG5,mG6,mG7,mG8,mG9,mG10,mG11,mG12,mG13,mG14,mG15]
theorem memos3_ok:∀ m∈memos3,MemoOk Tryz.prog 78 m:=by
 intro m hm;simp only[memos3,List.mem_cons,List.not_mem_nil,or_false] at hm;rcases hm with rfl|rfl|rfl|rfl|rfl|rfl|rfl|rfl|rfl|rfl|rfl|rfl|rfl|rfl|rfl
 ·exact mG1_ok
 ·exact mG2_ok
 ·exact mG3_ok
 ·exact mG4_ok
 ·exact mG5_ok
 ·exact mG6_ok
 ·exact mG7_ok
 ·exact mG8_ok
 ·exact mG9_ok
 ·exact mG10_ok
 ·exact mG11_ok
 ·exact mG12_ok
 ·exact mG13_ok
 ·exact mG14_ok
 ·exact mG15_ok
noncomputable def tabL:List (Option FEnt):=[
 none,
 none,
 some (.code c2 [] 1),
 some (.code c3 [.tmp 4] 236),
 some (.code c4 [.tmp 6] 80),
 some (.code c5 [.tmp 4] 82),
 some (.code c6 [.tmp 4] 204),
 some (.code c7 [.tmp 4] 280),
 some (.code c8 [.tmp 6] 337),
 some (.code c9 [.tmp 4] 271),
 some (.code c10 [.tmp 6] 184),
 some (.code c11 [.tmp 4] 14),
 some (.code c12 [.tmp 4] 18),
 some (.code c13 [.tmp 0] 193),
 some (.code c14 [.tmp 2] 6),
 some (.codeJ c15 [.tmp 4,.tmp 5] 15),
 some (.codeJ c16 [.tmp 4,.tmp 5] 18),
 some (.code c17 [.tmp 4] 26),
 some (.code c18 [.tmp 8] 65),
 some (.code c19 [.tmp 4] 29),
 some (.code c20 [.tmp 6] 15),
 some (.code c21 [.tmp 6] 33),
 some (.code c22 [.tmp 6] 31),
 some (.code c23 [.tmp 2] 11),
 some (.codeJ c24 [.tmp 6,.tmp 7] 29),
 some (.code c25 [.tmp 6,.tmp 7] 77),
 some (.code c26 [.tmp 4] 26),
 some (.codeJ c27 [.tmp 4,.tmp 5,.tmp 6] 73),
 some (.code c28 [.tmp 8,.tmp 9] 65),
 some (.code c29 [.tmp 6] 41),
 some (.code c30 [.tmp 2] 32),
 some (.code c31 [.tmp 2] 6),
 some (.codeJ c32 [.cell 6 true 2,.tmp 7,.tmp 8] 37),
 some (.codeJ c33 [.cell 8 true 2,.tmp 9] 103),
 some (.code c34 [.tmp 10,.tmp 11] 83),
 some (.code c35 [.cell 2 true 2] 22),
 some (.code c36 [.tmp 2] 51),
 some (.code c37 [.tmp 4] 39),
 some (.code c38 [.tmp 6] 24),
 some (.codeJ c39 [.cell 4 true 2,.tmp 5] 52),
 some (.code c40 [.tmp 2] 6),
 some (.code c41 [.tmp 2] 6),
 some (.code c42 [.tmp 6,.tmp 7,.tmp 8] 61),
 some (.code c43 [.tmp 2] 44),
 some (.code c44 [.tmp 8] 59),
 some (.code c45 [.tmp 0] 10),
 some (.code c46 [.tmp 2] 9),
 some (.codeJ c47 [.tmp 4,.tmp 5] 23),
 some (.code c48 [.cell 4 true 2] 8),
 some (.code c49 [.tmp 4,.tmp 5,.tmp 6] 29),
 some (.code c50 [.tmp 4] 24),
 some (.code c51 [.cell 4 true 2,.tmp 5] 21),
 some (.code c52 [.tmp 2] 13),
 some (.codeJ c53 [.tmp 4,.tmp 5] 62),
 some (.code c54 [.tmp 4] 40),
 some (.code c55 [.tmp 4] 63),
 some (.codeM c56 [.tmp 2] 15 memos1),
 some (.codeJ c57 [.tmp 6] 21),
 some (.code c58 [.tmp 6] 31),
 some (.code c59 [.cell 6 true 3,.tmp 7] 33),
 some (.codeJ c60 [.tmp 2,.tmp 3] 41),
 some (.code c61 [.tmp 6] 11),
 some (.code c62 [.cell 0 true 2] 2),
 some (.code c63 [.tmp 2] 4),
 some (.code c64 [.cell 6 true 2] 44),
 some (.code c65 [.cell 4 true 2] 16),
 some (.code c66 [.cell 4 true 2] 17),
 some (.code c67 [.tmp 8,.tmp 9] 47),
 some (.code c68 [.tmp 4] 16),
 some (.code c69 [.tmp 2] 10),
 some (.code c70 [.cell 2 true 2] 61),
 some (.code c71 [.tmp 4] 9),
 some (.code c72 [.tmp 3] 9),
 some (.code c73 [.tmp 4] 20),
 some (.code c74 [.tmp 4] 26),
 some (.code c75 [.tmp 4] 17),
 some (.codeJ c76 [.tmp 2] 16),
 some (.code c77 [.tmp 2,.tmp 3] 64),
 some (.codeM c78 [.tmp 4] 24 memos3),
 some (.codeM c79 [.tmp 4] 38 memos2),
 some (.code c80 [.tmp 2] 18),
 some (.code c81 [.tmp 4] 20),
 some (.code c82 [.tmp 4] 36),
 some (.code c83 [.tmp 2] 8),
 some (.code c84 [.tmp 2] 15),
 some (.code c85 [.tmp 4] 9),
 some (.code c86 [.cell 6 true 2] 44),
 some (.code c87 [.tmp 4] 9),
 some (.code c88 [.tmp 4] 13),
 some (.code c89 [] 19),
 some (.code c90 [.tmp 4] 9),
 some (.code c91 [.tmp 2] 6),
 some (.code c92 [.tmp 2] 32),
 some (.code c93 [.tmp 4] 19),
 some (.code c94 [] 9),
 some (.code c95 [.tmp 5] 36),
 some (.code c96 [] 11),
 some (.code c97 [] 14),
 some (.code c98 [.tmp 3] 11),
 some (.code c99 [.tmp 2] 6),
 some (.code c100 [.tmp 2] 14),
 some (.code c101 [.tmp 2] 14),
 some (.code c102 [.tmp 4] 19),
 some (.code c103 [.tmp 4] 19),
 some (.code c104 [.tmp 4] 19),
 some (.code c105 [] 63),
 some (.code c106 [] 134),
 some (.code c107 [.tmp 2] 8),
 some (.code c108 [] 148),
 some (.code c109 [] 53),
 some (.code c110 [] 220),
 some (.code c111 [] 49),
 some (.code c112 [] 56),
 some (.code c113 [] 65),
 some (.code c114 [.tmp 6,.tmp 7] 57),
 some (.code c115 [] 32),
 some (.code c116 [.tmp 6] 133),
 some (.code c117 [.tmp 4] 17),
 some (.code c118 [.tmp 8] 84),
 some (.code c119 [.tmp 8,.tmp 9] 168),
 some (.code c120 [.tmp 2] 19),
 some (.code c121 [.tmp 2] 25),
 some (.code c122 [] 53),
 some (.code c123 [] 60),
 some (.code c124 [] 67),
 some (.code c125 [.tmp 8,.tmp 9] 63),
 some (.code c126 [] 34),
 some (.code c127 [.tmp 8] 141),
 some (.code c128 [.tmp 10] 90),
 some (.code c129 [.tmp 10,.tmp 11] 178),
 some (.code c130 [] 58),
 some (.code c131 [] 76),
 some (.code c132 [.tmp 2] 7),
 some (.code c133 [.tmp 2] 33),
 some (.code c134 [.tmp 6] 15),
 some (.code c135 [.tmp 10] 36),
 some (.code c136 [] 82),
 some (.code c137 [.tmp 8] 18),
 some (.code c138 [.tmp 12] 41),
 some (.code c139 [] 38),
 some (.code c140 [.tmp 8,.tmp 9] 28),
 some (.code c141 [.tmp 10,.tmp 11] 32)]
noncomputable def tab:Tab:=fun f=>(tabL[f]?).join
theorem tabL_ok:EntsOk Tryz.prog 0 tabL:=⟨trivial,trivial,fun2,fun3,fun4,fun5,fun6,fun7,fun8,fun9,fun10,fun11,fun12,fun13,fun14,fun15,fun16,fun17,fun18,fun19,fun20,fun21,fun22,fun23,fun24,fun25,fun26,fun27,fun28,fun29,fun30,fun31,fun32,fun33,fun34,fun35,fun36,fun37,fun38,fun39,fun40,fun41,fun42,fun43,fun44,fun45,fun46,fun47,fun48,fun49,fun50,fun51,fun52,fun53,fun54,fun55,⟨fun56,memos1_ok⟩,fun57,fun58,fun59,fun60,fun61,fun62,fun63,fun64,fun65,fun66,fun67,fun68,fun69,fun70,fun71,fun72,fun73,fun74,fun75,fun76,fun77,⟨fun78,memos3_ok⟩,⟨fun79,memos2_ok⟩,fun80,fun81,fun82,fun83,fun84,fun85,fun86,fun87,fun88,fun89,fun90,fun91,fun92,fun93,fun94,fun95,fun96,fun97,fun98,fun99,fun100,fun101,fun102,fun103,fun104,fun105,fun106,fun107,fun108,fun109,fun110,fun111,fun112,fun113,fun114,fun115,fun116,fun117,fun118,fun119,fun120,fun121,fun122,fun123,fun124,fun125,fun126,fun127,fun128,fun129,fun130,fun131,fun132,fun133,fun134,fun135,fun136,fun137,fun138,fun139,fun140,fun141,trivial⟩
theorem tab_ok:TabOk Tryz.prog tab:=tabOk_of tabL_ok
theorem known_run:veval tab 300 boolOps [] c13 none (ET.of [] 193) CH.empty (eend false [.tmp 0] fun v _=>isTrue v)=true:=by kernel_rfl
theorem known_ok {σ:Heap}{K:Value→Heap→Prop}(hK:K (.bool true) σ):VCalled Tryz.prog 13 [] σ K:=run_true mixed tab_ok 300 fun13 (by decide) known_run hK
end Go.Proofs.Tryz
set_option linter.unusedVariables false
namespace Go.Proofs.Tryz
open Go Go.V Go.Proofs
def al_law09_known:AL (Unit):=.nil
def pre_law09_known (d:Unit):Prop:=True
def res_law09_known (d:Unit):SV:=.val .bo true
def obs_law09_known (d:Unit):List OB:=[]
def s_law09_known:CSp:=mkSp al_law09_known pre_law09_known res_law09_known obs_law09_known
abbrev Ok_law09_known:Prop:=OkC Tryz.prog 13 s_law09_known
theorem ok_law09_known:Ok_law09_known:=okC_true fun _ _ h=>known_ok h
end Go.Proofs.Tryz
set_option linter.unusedVariables false
namespace Go.Proofs.Tryz
open Go Go.V Go.Proofs
def al_ref09_In:AL (Int×Int×Int):=(.cons (.k (.i .i64)) (.cons (.k (.i .i64)) (.one (.k (.i .i64)))))
def pre_ref09_In (d:Int×Int×Int):Prop:=True
def res_ref09_In (d:Int×Int×Int):SV:=.val .bo (inI d.1 d.2.1 d.2.2)
def obs_ref09_In (d:Int×Int×Int):List OB:=[]
def s_ref09_In:CSp:=mkSp al_ref09_In pre_ref09_In res_ref09_In obs_ref09_In
def vc_ref09_In (n:Int) (a:Int) (b:Int):Prop :=
 (((decide (n≥a))&&(decide (n≤b)))=(inI n a b)∧(True))
def cx_ref09_In:Cx:=⟨[],[],15,[],0,[],[],[],[],false,[],[],[],[]⟩
def lp_ref09_In (n:Int) (a:Int) (b:Int):List (Nat×LoopAnn):=[]
set_option maxRecDepth 100000 in
theorem vq_ref09_In (d:Int×Int×Int):gwp (cx_ref09_In) (lp_ref09_In d.1 d.2.1 d.2.2) c20 0 (gend [.tmp 6] (res_ref09_In d) (obs_ref09_In d)) (gstart 15 (AL.can al_ref09_In d))=vc_ref09_In d.1 d.2.1 d.2.2:=by kernel_rfl
abbrev Ok_ref09_In:Prop:=OkC Tryz.prog 20 s_ref09_In
theorem mk_ref09_In (h:∀ (n:Int) (a:Int) (b:Int),(True)→vc_ref09_In n a b):OkC Tryz.prog 20 s_ref09_In :=
 okC_vc fun20 mixed (C:=cx_ref09_In) (V:=fun (d:Int×Int×Int)=>vc_ref09_In d.1 d.2.1 d.2.2) ⟨.nil,XsOk.nil,ItsOk.nil,YlOk.nil,IysOk.nil,XfOk.nil⟩ (vq_ref09_In) fun d hp=>h d.1 d.2.1 d.2.2 hp
theorem ok_ref09_In:Ok_ref09_In:=mk_ref09_In fun n a b _=>by
 simp[vc_ref09_In,inI]
def al_ref09_Entries:AL (Int×Int×List (Int×Int)):=(.cons (.k (.i .i64)) (.cons (.k (.i .i64)) (.one (.k (.list (.pair (.i .i64) (.i .i64)))))))
def pre_ref09_Entries (d:Int×Int×List (Int×Int)):Prop:=d.2.2.length≤9223372036854775807
def res_ref09_Entries (d:Int×Int×List (Int×Int)):SV:=.val (.i .i64) (entErr d.1 d.2.1 d.2.2)
def obs_ref09_Entries (d:Int×Int×List (Int×Int)):List OB:=[]
def s_ref09_Entries:CSp:=mkSp al_ref09_Entries pre_ref09_Entries res_ref09_Entries obs_ref09_Entries
def vc_ref09_Entries (g:Int) (s:Int) (l:List (Int×Int)):Prop :=
 (True)∧((!(inI g (1:Int) (1000000:Int)))=false→True)∧(((!(inI g (1:Int) (1000000:Int)))||(!(inI s (0:Int) (1000:Int))))=true →
  ((2:Int)=(entErr g s l)∧(True))) ∧
 (((!(inI g (1:Int) (1000000:Int)))||(!(inI s (0:Int) (1000:Int))))=false →
  ((decide ((lI l) > (40:Int)))=true →
   ((5:Int)=(entErr g s l)∧(True))) ∧
  ((decide ((lI l) > (40:Int)))=false →
   ∃ (e2:Unit) (d20:Int),((l=l∧(0:Int)=d20∧True)∧(True)) ∧
   LoopP (fun (d2:Int) (q2:(Int)→Prop) =>
    ((decide (d2<(lI l)))=true →
     (0≤d2)∧(d2<(List.length l))∧(True)∧((!(inI ((gD l d2 (0,0)).1) (1:Int) (3:Int)))=false→0≤d2)∧((!(inI ((gD l d2 (0,0)).1) (1:Int) (3:Int)))=false→d2<(List.length l))∧((!(inI ((gD l d2 (0,0)).1) (1:Int) (3:Int)))=false→True)∧(((!(inI ((gD l d2 (0,0)).1) (1:Int) (3:Int)))||(!(inI ((gD l d2 (0,0)).2) (0:Int) (12000000:Int))))=true →
      ((2:Int)=(entErr g s l)∧(True))) ∧
     (((!(inI ((gD l d2 (0,0)).1) (1:Int) (3:Int)))||(!(inI ((gD l d2 (0,0)).2) (0:Int) (12000000:Int))))=false →
      (I64 (d2+(1:Int)))∧(∃ d3:Int,((l=l∧(d2+(1:Int))=d3∧True)∧(True))∧q2 d3))) ∧
    ((decide (d2<(lI l)))=false →
     ((0:Int)=(entErr g s l)∧(True)))) d20))
def cx_ref09_Entries:Cx:=⟨[],[(20,s_ref09_In)],41,[],0,[],[],[],[],false,[],[],[],[]⟩
def lp_ref09_Entries (g:Int) (s:Int) (l:List (Int×Int)):List (Nat×LoopAnn):=[(0,⟨Unit,Int,[2,7],fun e x=>[.val (.list (.pair (.i .i64) (.i .i64))) l,.val (.i .i64) x],fun e x=>[]⟩)]
set_option maxRecDepth 100000 in
theorem vq_ref09_Entries (d:Int×Int×List (Int×Int)):gwp (cx_ref09_Entries) (lp_ref09_Entries d.1 d.2.1 d.2.2) c29 0 (gend [.tmp 6] (res_ref09_Entries d) (obs_ref09_Entries d)) (gstart 41 (AL.can al_ref09_Entries d))=vc_ref09_Entries d.1 d.2.1 d.2.2:=by kernel_rfl
abbrev Ok_ref09_Entries:Prop:=OkC Tryz.prog 29 s_ref09_Entries
theorem mk_ref09_Entries (h:∀ (g:Int) (s:Int) (l:List (Int×Int)),(l.length≤9223372036854775807)→vc_ref09_Entries g s l):OkC Tryz.prog 29 s_ref09_Entries :=
 okC_vc fun29 mixed (C:=cx_ref09_Entries) (V:=fun (d:Int×Int×List (Int×Int))=>vc_ref09_Entries d.1 d.2.1 d.2.2) ⟨(.cons ok_ref09_In .nil),XsOk.nil,ItsOk.nil,YlOk.nil,IysOk.nil,XfOk.nil⟩ (vq_ref09_Entries) fun d hp=>h d.1 d.2.1 d.2.2 hp
theorem ok_ref09_Entries:Ok_ref09_Entries:=mk_ref09_Entries fun g s l hl=>by
 unfold vc_ref09_Entries;(try delta lI gD sT I64)
 (try simp only[decide_eq_true_eq,decide_eq_false_iff_not])
 refine⟨trivial,fun _=>trivial,fun h1=>⟨?_,trivial⟩,fun h1=>⟨fun h2=>⟨?_,trivial⟩,fun h2=>⟨(),0,(by and_intros<;>first|rfl|trivial|simp),?_⟩⟩⟩
 ·unfold entErr;rw[if_pos h1]
 ·unfold entErr;rw[if_neg (by rw[h1];decide),if_pos (by omega)]
 refine LoopP.count l.length (fun k=>∀ j,j<k→(!inI (l.getD j (0,0)).1 1 3||!inI (l.getD j (0,0)).2 0 12000000)=false) (fun j hj=>by omega) fun k hk hJ q hq=>?_
 simp only[Int.toNat_natCast];refine⟨fun hlt=>⟨by omega,hlt,trivial,fun _=>by omega,fun _=>hlt,fun _=>trivial,fun hx=>⟨?_,trivial⟩,fun hx=>⟨by rw[InK_i64];omega,_,(by and_intros<;>first|rfl|trivial|simp),hq (by omega) fun j hj=>?_⟩⟩,fun hge=>⟨?_,trivial⟩⟩
 ·have hkl:k<l.length:=by omega
  rw[getD_nat hkl] at hx;unfold entErr;rw[if_neg (by rw[h1];decide),if_neg (by omega),if_pos (List.any_eq_true.2 ⟨_,List.getElem_mem hkl,hx⟩)]
 ·rcases Nat.lt_succ_iff_lt_or_eq.1 hj with hj|rfl
  ·exact hJ j hj
  ·exact hx
 ·have hf:(l.any fun x=>!inI x.1 1 3||!inI x.2 0 12000000)=false:=by
   rw[List.any_eq_false];intro x hx;obtain⟨i,hi,rfl⟩:=List.getElem_of_mem hx;have:=hJ i (by omega)
   rw[getD_nat hi] at this;rw[this];decide
  unfold entErr;rw[if_neg (by rw[h1];decide),if_neg (by omega),hf,if_neg (by decide)]
end Go.Proofs.Tryz
set_option linter.unusedVariables false
namespace Go.Proofs.Tryz
open Go Go.V Go.Proofs
def aftR (f s:Int) (x:En) (w:Int):Int×Bool:=if w<0∨w > x.2+s∨w<x.2-s then (0,false) else if x.1=1 then (f-w,decide (w≤f)) else if x.1=2 then (f+w,true) else (f,f==w)
theorem aftR_iff {f s w n:Int}{x:En}:((aftR f s x w).2=true∧(aftR f s x w).1=n)↔okT s f x w∧stepT f x w=n:=by
 unfold aftR okT stepT InB realB;simp only[gmax_eq];by_cases h:w<0∨w > x.2+s∨w<x.2-s
 ·rw[if_pos h];exact⟨(fun h2=>by cases h2.1),fun h2=>by omega⟩
 ·rw[if_neg h];by_cases h1:x.1=1
  ·rw[if_pos h1,if_pos h1,decide_eq_true_eq];omega
  ·rw[if_neg h1,if_neg h1];by_cases h2:x.1=2
   ·rw[if_pos h2,if_pos h2];simp only[true_and];omega
   ·rw[if_neg h2,if_neg h2,beq_iff_eq];omega
def lefS (g s:Int) (l:List En) (e t:Int):Nat→Sp
 |0=>(g,g)
 |k+1=>if (thR s (l.getD k (0,0)) k e t).1 > (thR s (l.getD k (0,0)) k e t).2 then (1,0) else thA (lefS g s l e t k) (thR s (l.getD k (0,0)) k e t) (l.getD k (0,0))
def lefK (g s:Int) (l:List En) (e t:Int):Option Nat:=(List.range l.length).find? fun k=>decide ((lefS g s l e t (k+1)).1 > (lefS g s l e t (k+1)).2)
def lefW (g s:Int) (l:List En) (e t:Int):Int:=match lefK g s l e t with|some k=>(k:Int)|none=>-1
def keyM (m:List (Int×Bool)) (n:Int):Prop:=∃ p∈m,p.1=n
def lefP (g s:Int) (l:List En) (e t:Int) (m:List (Int×Bool)):Prop:=lefW g s l e t<0→∀ n,keyM m n↔InB (lefS g s l e t l.length) n
theorem thR_in {s i e t w:Int}{x:En}:InB (thR s x i e t) w↔InB (realB s x) w∧(i=e→w=t):=by
 unfold thR InB;by_cases h:i=e
 ·rw[if_pos h];simp only[gmax_eq,gmin_eq];constructor
  ·intro h2;exact⟨by omega,fun _=>by omega⟩
  ·rintro⟨h2,h3⟩;have:=h3 h;omega
 ·rw[if_neg h];exact⟨fun h2=>⟨h2,fun h3=>(h h3).elim⟩,fun h2=>h2.1⟩
theorem thA_in {p r:Sp}{x:En}{n:Int}(hp:p.1≤p.2) (hr:0≤r.1∧r.1≤r.2):InB (thA p r x) n↔∃ a w,InB p a∧InB r w∧(x.1=1→w≤a)∧(x.1≠1→x.1≠2→w=a)∧stepT a x w=n:=by
 unfold thA InB stepT;by_cases h1:x.1=1
 ·simp only[if_pos h1,gmax_eq];constructor
  ·intro h;refine⟨n+max r.1 (p.1-n),max r.1 (p.1-n),?_,?_,fun _=>?_,fun h2=>(h2 h1).elim,?_⟩<;>omega
  ·rintro⟨a,w,h2,h3,h4,_,h5⟩;have:=h4 h1;omega
 ·simp only[if_neg h1];by_cases h2:x.1=2
  ·simp only[if_pos h2];constructor
   ·intro h;refine⟨n-max r.1 (n-p.2),max r.1 (n-p.2),?_,?_,fun h3=>(h1 h3).elim,fun _ h3=>(h3 h2).elim,?_⟩<;>omega
   ·rintro⟨a,w,h3,h4,_,_,h5⟩;omega
  ·simp only[if_neg h2,gmax_eq,gmin_eq];constructor
   ·intro h;refine⟨n,n,?_,?_,fun h3=>(h1 h3).elim,fun _ _=>rfl,rfl⟩<;>omega
   ·rintro⟨a,w,h3,h4,_,h5,h6⟩;have:=h5 h1 h2;omega
theorem thR_pos {s i e t:Int}{x:En}(hx:enOk x):0≤(thR s x i e t).1:=by
 unfold thR realB;split
 ·simp only[gmax_eq];omega
 ·simp only[gmax_eq];omega
theorem lef_step {g s:Int}{l:List En}{e t:Int}{k:Nat}(hx:enOk (l.getD k (0,0))) (hp:Ne (lefS g s l e t k)) {n:Int} :
  InB (lefS g s l e t (k+1)) n↔∃ a w,InB (lefS g s l e t k) a∧((k:Int)=e→w=t)∧okT s a (l.getD k (0,0)) w∧stepT a (l.getD k (0,0)) w=n:=by
 simp only[lefS];have hr0:=thR_pos (s:=s) (i:=k) (e:=e) (t:=t) hx;have hin:=fun w=>thR_in (s:=s) (i:=k) (e:=e) (t:=t) (w:=w) (x:=l.getD k (0,0));by_cases h:(thR s (l.getD k (0,0)) k e t).1 > (thR s (l.getD k (0,0)) k e t).2
 ·rw[if_pos h];constructor
  ·intro h2;unfold InB at h2;dsimp only at h2;omega
  ·rintro⟨a,w,_,h3,h4,_⟩;have:=(hin w).2 ⟨h4.1,h3⟩;unfold InB at this;omega
 ·rw[if_neg h,thA_in hp ⟨hr0,by omega⟩]
  constructor
  ·rintro⟨a,w,h1,h2,h3,h4,h5⟩;have:=(hin w).1 h2;exact⟨a,w,h1,this.2,⟨this.1,h3,h4⟩,h5⟩
  ·rintro⟨a,w,h1,h2,⟨h3,h4,h5⟩,h6⟩;exact⟨a,w,h1,(hin w).2 ⟨h3,h2⟩,h4,h5,h6⟩
theorem lef_bd {g s:Int}{l:List En}{e t:Int}(hb:bookOk g s l):∀ k,k≤l.length→(∀ j,j<k→Ne (lefS g s l e t (j+1)))→Ne (lefS g s l e t k)∧∀ a,InB (lefS g s l e t k) a→0≤a∧a≤1000000+12001000*(k:Int)
 |0,_,_=>⟨Int.le_refl _,fun a ha=>by unfold InB at ha;simp only[lefS] at ha;have:=hb.1;have:=hb.2.1;omega⟩
 |k+1,hk,hn=>by
  obtain⟨h1,h2⟩:=lef_bd hb k (by omega) fun j hj=>hn j (by omega)
  refine⟨hn k (by omega),fun n hna=>?_⟩
  have hx:enOk (l.getD k (0,0)):=by rw[getD_nat (show k<l.length by omega)];exact hb.2.2.2.2.2 _ (List.getElem_mem _)
  obtain⟨a,w,h3,_,⟨h4,h5,h6⟩,rfl⟩:=(lef_step hx h1).1 hna;have h7:=h2 a h3;obtain⟨x1,x2,x3,x4⟩:=hx;have hs:=hb.2.2.1;have hs2:=hb.2.2.2.1;unfold InB realB at h4;simp only[gmax_eq] at h4;unfold stepT;by_cases c1:(l.getD k (0,0)).1=1
  ·have:=h5 c1;rw[if_pos c1];omega
  ·rw[if_neg c1];by_cases c2:(l.getD k (0,0)).1=2
   ·rw[if_pos c2];omega
   ·rw[if_neg c2];omega
theorem lefW_at {g s:Int}{l:List En}{e t:Int}{k:Nat}(hk:k<l.length) (h1:∀ j,j<k→Ne (lefS g s l e t (j+1))) (h2:¬ Ne (lefS g s l e t (k+1))):lefW g s l e t=k:=by
 have:lefK g s l e t=some k:=by
  unfold lefK;rw[List.find?_eq_some_iff_getElem];refine⟨by unfold Ne at h2;simp;omega,k,by simpa using hk,by simp,fun j hj=>?_⟩
  have:=h1 j hj;unfold Ne at this;simp;omega
 unfold lefW;rw[this]
theorem lefW_none {g s:Int}{l:List En}{e t:Int}:lefW g s l e t<0↔∀ k,k<l.length→Ne (lefS g s l e t (k+1)):=by
 unfold lefW;cases h:lefK g s l e t with
 |some k =>
  refine⟨fun h2=>by dsimp only at h2;omega,fun h2=>?_⟩
  have:=List.find?_some h;have hm:=List.mem_range.1 (List.mem_of_find?_eq_some h);have h3:=h2 k hm;unfold Ne at h3;simp at this;omega
 |none =>
  refine⟨fun _ k hk=>?_,fun _=>by decide⟩
  have:=List.find?_eq_none.1 h k (List.mem_range.2 hk);unfold Ne;simpa using this
theorem lefW_end {g s:Int}{l:List En}{e t:Int}(h:∀ k,k<l.length→Ne (lefS g s l e t (k+1))):lefW g s l e t=-1:=by
 have h2:=lefW_none.2 h;unfold lefW at h2 ⊢;cases h3:lefK g s l e t with
 |some k=>rw[h3] at h2;dsimp only at h2;omega
 |none=>rfl
theorem lef_book {g s:Int}{l:List En}{t:Int}(hb:bookOk g s l):∀ k,k≤l.length→(∀ j,j+1<k→Ne (lefS g s l (-1) t (j+1)))→lefS g s l (-1) t k=stB g s l k
 |0,_,_=>rfl
 |k+1,hk,hn=>by
  have ih:=lef_book hb k (by omega) fun j hj=>hn j (by omega)
  have hkl:k<l.length:=by omega
  have hx:=hb.2.2.2.2.2 _ (List.getElem_mem hkl);have hlen:=hb.2.2.2.2.1;obtain⟨h1,h2⟩:=lef_bd (e:=-1) (t:=t) hb k (by omega) fun j hj=>hn j (by omega)
  have hR:thR s (l.getD k (0,0)) k (-1) t=realB s l[k]:=by unfold thR;rw[if_neg (by omega),getD_nat hkl]
  have hp2:=(h2 _ ⟨h1,Int.le_refl _⟩).2;simp only[lefS];rw[hR,if_neg (real_ne hb.2.2.1 hx),stB_succ hkl,getD_nat hkl,←ih];exact thA_after (by omega)
theorem lef_wrong {g s:Int}{l:List En}{t:Int}(hb:bookOk g s l):lefW g s l (-1) t=wrongI g s l:=by
 by_cases h:∀ k,k<l.length→Ne (lefS g s l (-1) t (k+1))
 ·rw[lefW_end h];have:wrongI g s l<0:=wrong_none.2 fun k hk=>by
   have h2:=h k hk
   rwa [lef_book hb (k+1) (by omega) fun j hj=>h j (by omega)] at h2
  unfold wrongI at this ⊢;cases h3:wrongN g s l with
  |some k=>rw[h3] at this;dsimp only at this;omega
  |none=>rfl
 ·have:¬ lefW g s l (-1) t<0:=fun h2=>h (lefW_none.1 h2);unfold lefW at this ⊢;cases h3:lefK g s l (-1) t with
  |none=>rw[h3] at this;exact(this (by decide)).elim
  |some k =>
   have hm:=List.mem_range.1 (List.mem_of_find?_eq_some h3);unfold lefK at h3;rw[List.find?_eq_some_iff_getElem] at h3;obtain⟨g1,i,gi,ge,g2⟩:=h3;rw[List.getElem_range] at ge;subst ge;have hne:∀ j,j<i→Ne (lefS g s l (-1) t (j+1)):=fun j hj=>by
    have:=g2 j hj;rw[List.getElem_range] at this;unfold Ne;simpa using this
   have e1:∀ j,j≤i→lefS g s l (-1) t (j+1)=stB g s l (j+1):=fun j hj=>lef_book hb (j+1) (by omega) fun q hq=>hne q (by omega)
   have hw:wrongN g s l=some i:=by
    unfold wrongN;rw[List.find?_eq_some_iff_getElem];refine⟨by unfold badB;rw[←e1 i (Nat.le_refl _)];exact g1,i,gi,by simp,fun j hj=>?_⟩
    rw[List.getElem_range];have:=hne j hj;rw[e1 j (by omega)] at this
    unfold Ne at this;unfold badB;simpa using this
   unfold wrongI;rw[hw]
theorem lef_thr {g s:Int}{l:List En}{e t:Int}:lefW g s l e t<0↔(thrU g s l e t).2=true:=by
 have key:∀ n k,n+k=l.length→((∀ j,k≤j→j<l.length→Ne (lefS g s l e t (j+1)))↔(thGo s e t (l.drop k) k (lefS g s l e t k)).2=true):=by
  intro n;induction n with
  |zero =>
   intro k hk;rw[List.drop_eq_nil_of_le (by omega)]
   exact⟨fun _=>rfl,fun _ j h1 h2=>by omega⟩
  |succ n ih =>
   intro k hk;have hkl:k<l.length:=by omega
   rw[List.drop_eq_getElem_cons hkl];have hd:l.getD k (0,0)=l[k]:=getD_nat hkl;have hS:lefS g s l e t (k+1)=if (thR s l[k] k e t).1 > (thR s l[k] k e t).2 then (1,0) else thA (lefS g s l e t k) (thR s l[k] k e t) l[k]:=by simp only[lefS,hd]
   simp only[thGo];by_cases h:(thR s l[k] k e t).1 > (thR s l[k] k e t).2
   ·rw[if_pos h];rw[if_pos h] at hS;refine⟨fun h2=>?_,fun h2=>by cases h2⟩
    have:=h2 k (Nat.le_refl _) hkl;rw[hS] at this;unfold Ne at this;dsimp only at this;omega
   ·rw[if_neg h];rw[if_neg h] at hS;by_cases h1:(thA (lefS g s l e t k) (thR s l[k] k e t) l[k]).1 > (thA (lefS g s l e t k) (thR s l[k] k e t) l[k]).2
    ·rw[if_pos h1];refine⟨fun h2=>?_,fun h2=>by cases h2⟩
     have:=h2 k (Nat.le_refl _) hkl;rw[hS] at this;unfold Ne at this;omega
    ·rw[if_neg h1];have:=ih (k+1) (by omega)
     rw[hS] at this;have ec:((k:Int)+1)=((k+1:Nat):Int):=by omega
     rw[ec,←this];refine⟨fun h2 j h3 h4=>h2 j (by omega) h4,fun h2 j h3 h4=>?_⟩
     by_cases hj:j=k
     ·subst hj;rw[hS];unfold Ne;omega
     ·exact h2 j (by omega) h4
 rw[lefW_none];have:=key l.length 0 (by omega)
 rw[List.drop_zero] at this;exact⟨fun h=>this.1 fun j _ hj=>h j hj,fun h k hk=>this.2 h k (by omega) hk⟩
theorem truth_ex {g s:Int}{l:List En}(hb:bookOk g s l) (h:wrongI g s l<0):∃ w,Truth g s l w:=by
 have h0:lefW g s l (-1) 0<0:=by rw[lef_wrong hb];exact h
 have hn:=lefW_none.1 h0;have hlen:=hb.2.2.2.2.1;have key:∀ k,k≤l.length→∀ v,InB (lefS g s l (-1) 0 k) v→∃ w:List Int,w.length=k∧(∀ j,j≤k→0≤vT g l w j∧vT g l w j≤1000000000)∧(∀ j,j<k→okT s (vT g l w j) (l.getD j (0,0)) (w.getD j 0))∧vT g l w k=v:=by
  intro k;induction k with
  |zero =>
   intro _ v hv;unfold InB at hv;simp only[lefS] at hv;refine⟨[],rfl,fun j hj=>?_,fun j hj=>by omega,by simp only[vT];omega⟩
   obtain rfl:j=0:=by omega
   simp only[vT];have:=hb.1;have:=hb.2.1;omega
  |succ k ih =>
   intro hk v hv;have hkl:k<l.length:=by omega
   have hx:enOk (l.getD k (0,0)):=by rw[getD_nat hkl];exact hb.2.2.2.2.2 _ (List.getElem_mem _)
   obtain⟨h1,_⟩:=lef_bd (e:=-1) (t:=0) hb k (by omega) fun j hj=>hn j (by omega)
   obtain⟨a,t,h3,_,h5,h6⟩:=(lef_step hx h1).1 hv;obtain⟨w,w1,w2,w3,w4⟩:=ih (by omega) a h3
   have hg:∀ j,j<k→(w++[t]).getD j 0=w.getD j 0:=fun j hj=>by
    rw[getD_nat (by rw[List.length_append];omega:j<(w++[t]).length),List.getElem_append_left (by omega),getD_nat (by omega)]
   have hv2:∀ j,j≤k→vT g l (w++[t]) j=vT g l w j:=by
    intro j;induction j with
    |zero=>intro _;rfl
    |succ j ihj=>intro hj;simp only[vT];rw[ihj (by omega),hg j (by omega)]
   have hl:(w++[t]).getD k 0=t:=by
    rw[getD_nat (by rw[List.length_append];simp;omega:k<(w++[t]).length),List.getElem_append_right (by omega)];simp[w1]
   have hlast:vT g l (w++[t]) (k+1)=v:=by simp only[vT];rw[hv2 k (Nat.le_refl _),hl,w4];exact h6
   refine⟨w++[t],by rw[List.length_append,w1];rfl,fun j hj=>?_,fun j hj=>?_,hlast⟩
   ·by_cases hjk:j=k+1
    ·subst hjk;rw[hlast];have:=(lef_bd (e:=-1) (t:=0) hb (k+1) hk fun q hq=>hn q (by omega)).2 v hv
     omega
    ·rw[hv2 j (by omega)];exact w2 j (by omega)
   ·by_cases hjk:j=k
    ·subst hjk;rw[hv2 j (Nat.le_refl _),hl,w4];exact h5
    ·rw[hv2 j (by omega),hg j (by omega)];exact w3 j (by omega)
 obtain⟨h1,_⟩:=lef_bd (e:=-1) (t:=0) hb l.length (Nat.le_refl _) fun j hj=>hn j hj;obtain⟨w,w1,w2,w3,_⟩:=key l.length (Nat.le_refl _) _ ⟨Int.le_refl _,h1⟩;exact⟨w,w1,w2,w3⟩
def endsM (m:List (Int×Bool)):Sp:=(m.foldl (fun a p=>gmin a p.1) 1099511627776,m.foldl (fun a p=>gmax a p.1) (-1))
theorem foldmin (m:List (Int×Bool)):∀ a:Int,m.foldl (fun a p=>gmin a p.1) a≤a∧(∀ p∈m,m.foldl (fun a p=>gmin a p.1) a≤p.1)∧(m.foldl (fun a p=>gmin a p.1) a=a∨∃ p∈m,m.foldl (fun a p=>gmin a p.1) a=p.1):=by
 induction m with
 |nil=>intro a;exact⟨Int.le_refl _,(fun p hp=>by cases hp),.inl rfl⟩
 |cons q m ih =>
  intro a;simp only[List.foldl_cons];obtain⟨h1,h2,h3⟩:=ih (gmin a q.1);have e:=gmin_eq a q.1;refine⟨by omega,fun p hp=>?_,?_⟩
  ·rcases List.mem_cons.1 hp with rfl|hp
   ·omega
   ·exact h2 p hp
  ·rcases h3 with h3|⟨p,hp,h3⟩
   ·by_cases c:a≤q.1
    ·exact .inl (by omega)
    ·exact .inr ⟨q,List.mem_cons_self ..,by omega⟩
   ·exact .inr ⟨p,List.mem_cons_of_mem _ hp,h3⟩
theorem foldmax (m:List (Int×Bool)):∀ a:Int,a≤m.foldl (fun a p=>gmax a p.1) a∧(∀ p∈m,p.1≤m.foldl (fun a p=>gmax a p.1) a)∧(m.foldl (fun a p=>gmax a p.1) a=a∨∃ p∈m,m.foldl (fun a p=>gmax a p.1) a=p.1):=by
 induction m with
 |nil=>intro a;exact⟨Int.le_refl _,(fun p hp=>by cases hp),.inl rfl⟩
 |cons q m ih =>
  intro a;simp only[List.foldl_cons];obtain⟨h1,h2,h3⟩:=ih (gmax a q.1);have e:=gmax_eq a q.1;refine⟨by omega,fun p hp=>?_,?_⟩
  ·rcases List.mem_cons.1 hp with rfl|hp
   ·omega
   ·exact h2 p hp
  ·rcases h3 with h3|⟨p,hp,h3⟩
   ·by_cases c:q.1≤a
    ·exact .inl (by omega)
    ·exact .inr ⟨q,List.mem_cons_self ..,by omega⟩
   ·exact .inr ⟨p,List.mem_cons_of_mem _ hp,h3⟩
theorem ends_span {m:List (Int×Bool)}{p:Sp}(hk:∀ n,keyM m n↔InB p n) (hn:Ne p) (h0:0≤p.1) (h1:p.2≤1099511627776):endsM m=p:=by
 obtain⟨a1,a2,a3⟩:=foldmin m 1099511627776;obtain⟨b1,b2,b3⟩:=foldmax m (-1);unfold Ne at hn;have k1:=(hk p.1).2 ⟨Int.le_refl _,hn⟩;have k2:=(hk p.2).2 ⟨hn,Int.le_refl _⟩;obtain⟨q1,m1,e1⟩:=k1;obtain⟨q2,m2,e2⟩:=k2;have c1:=a2 q1 m1;have c2:=b2 q2 m2;unfold endsM;refine Prod.ext ?_ ?_<;>dsimp only
 ·rcases a3 with a3|⟨q,mq,a3⟩
  ·omega
  ·have:=(hk q.1).1 ⟨q,mq,rfl⟩;unfold InB at this;omega
 ·rcases b3 with b3|⟨q,mq,b3⟩
  ·omega
  ·have:=(hk q.1).1 ⟨q,mq,rfl⟩;unfold InB at this;omega
theorem keyM_aput {m:List (Int×Bool)}{k n:Int}{v:Bool}:keyM (aput (.i .i64) m k v) n↔keyM m n∨n=k:=by
 induction m with
 |nil=>unfold keyM;show (∃ p∈[(k,v)],p.1=n)↔_;simp;exact eq_comm
 |cons q m ih =>
  obtain⟨a,b⟩:=q;have ec:aput (.i .i64) ((a,b)::m) k v=if k=a then (k,v)::m else (a,b)::aput (.i .i64) m k v:=by
   show (if (k==a)=true then (k,v)::m else (a,b)::aput (.i .i64) m k v)=_
   simp only[beq_iff_eq]
  rw[ec];unfold keyM at ih ⊢;by_cases h:k=a
  ·subst h;rw[if_pos rfl];simp only[List.mem_cons,exists_eq_or_imp];constructor
   ·rintro (h|h)
    ·exact .inr h.symm
    ·exact .inl (.inr h)
   ·rintro ((h|h)|h)
    ·exact .inl h
    ·exact .inr h
    ·exact .inl h.symm
  ·rw[if_neg h];simp only[List.mem_cons,exists_eq_or_imp,ih];constructor
   ·rintro (h|h|h)
    ·exact .inl (.inl h)
    ·exact .inl (.inr h)
    ·exact .inr h
   ·rintro ((h|h)|h)
    ·exact .inl h
    ·exact .inr (.inl h)
    ·exact .inr (.inr h)
def smallB (g s:Int) (l:List En):Bool:=!(l.any fun x=>decide (x.2 > 60))&&(decide ((l.length:Int)≤8)&&decide (g≤60)&&decide (s≤4))
theorem ends_ext {m m':List (Int×Bool)}(h:∀ p,p∈m↔p∈m'):endsM m=endsM m':=by
 obtain⟨a1,a2,a3⟩:=foldmin m 1099511627776;obtain⟨b1,b2,b3⟩:=foldmax m (-1);obtain⟨c1,c2,c3⟩:=foldmin m' 1099511627776;obtain⟨e1,e2,e3⟩:=foldmax m' (-1);unfold endsM;refine Prod.ext ?_ ?_<;>dsimp only
 ·rcases a3 with a3|⟨q,mq,a3⟩<;>rcases c3 with c3|⟨r,mr,c3⟩
  ·omega
  ·have:=a2 r ((h r).2 mr);omega
  ·have:=c2 q ((h q).1 mq);omega
  ·have:=a2 r ((h r).2 mr);have:=c2 q ((h q).1 mq);omega
 ·rcases b3 with b3|⟨q,mq,b3⟩<;>rcases e3 with e3|⟨r,mr,e3⟩
  ·omega
  ·have:=b2 r ((h r).2 mr);omega
  ·have:=e2 q ((h q).1 mq);omega
  ·have:=b2 r ((h r).2 mr);have:=e2 q ((h q).1 mq);omega
theorem nodup_lenN:∀ {l m:List Nat},l.Nodup→(∀ x∈l,x∈m)→l.length≤m.length
 |[],_,_,_=>Nat.zero_le _
 |x::l,m,hn,hs=>by
  have hn:=List.nodup_cons.1 hn;have hx:=hs x (List.mem_cons_self ..);have:=nodup_lenN (l:=l) (m:=m.erase x) hn.2 fun y hy=>(List.mem_erase_of_ne (by rintro rfl;exact hn.1 hy)).2 (hs y (List.mem_cons_of_mem _ hy))
  rw[List.length_erase_of_mem hx] at this;have:0<m.length:=List.length_pos_of_mem hx;simp only[List.length_cons];omega
theorem vis_add {n r:Nat}{vis:List Nat}(i1:vis.Nodup) (i2:∀ x∈vis,x<n) (hr:r<n) (hnr:r∉vis):(vis++[r]).Nodup∧(∀ x∈vis++[r],x<n)∧(vis++[r]).getLastD 0=r∧n-(vis++[r]).length<n-vis.length:=by
 have hnd:(vis++[r]).Nodup:=List.nodup_append.2 ⟨i1,by simp,fun a ha b hb e=>by rw[List.mem_singleton.1 hb] at e;rw[e] at ha;exact hnr ha⟩
 have hmem:∀ x∈vis++[r],x<n:=fun x hx=>by
  rcases List.mem_append.1 hx with hx|hx
  ·exact i2 x hx
  ·rw[List.mem_singleton.1 hx];exact hr
 have:=nodup_lenN (m:=List.range n) hnd fun r hr=>List.mem_range.2 (hmem r hr);rw[List.length_range,List.length_append,List.length_singleton] at this;refine⟨hnd,hmem,by simp,?_⟩
 rw[List.length_append,List.length_singleton];omega
theorem wasK_bd {g s:Int}{l:List En}{k:Nat}:0≤(wasK g s l k).1∧(wasK g s l k).2≤(l.getD k (0,0)).2+s:=by
 unfold wasK entB bothB realB;simp only[gmax_eq,gmin_eq];omega
end Go.Proofs.Tryz
set_option linter.unusedVariables false
namespace Go.Proofs.Tryz
open Go Go.V Go.Proofs
def al_ref09_After:AL (Int×Int×(Int×Int)×Int):=(.cons (.k (.i .i64)) (.cons (.k (.i .i64)) (.cons (.agg (.cons (.k (.i .i64)) (.one (.k (.i .i64))))) (.one (.k (.i .i64))))))
def pre_ref09_After (d:Int×Int×(Int×Int)×Int):Prop:=0≤d.2.1∧d.2.1≤1000∧0≤d.2.2.1.2∧d.2.2.1.2≤12000000∧-1000000000≤d.1∧d.1≤1000000000∧-1000000000≤d.2.2.2∧d.2.2.2≤1000000000
def res_ref09_After (d:Int×Int×(Int×Int)×Int):SV:=.tup [.val (.i .i64) ((aftR d.1 d.2.1 (d.2.2.1.1,d.2.2.1.2) d.2.2.2).1),.val .bo ((aftR d.1 d.2.1 (d.2.2.1.1,d.2.2.1.2) d.2.2.2).2)]
def obs_ref09_After (d:Int×Int×(Int×Int)×Int):List OB:=[]
def s_ref09_After:CSp:=mkSp al_ref09_After pre_ref09_After res_ref09_After obs_ref09_After
def vc_ref09_After (f:Int) (s:Int) (k:Int) (x:Int) (w:Int):Prop :=
 ((decide (w<(0:Int)))=false→InK .i64 (x+s))∧(((decide (w<(0:Int)))||(decide (w > (x+s))))=false→InK .i64 (x-s))∧((((decide (w<(0:Int)))||(decide (w > (x+s))))||(decide (w<(x-s))))=true →
  (((0:Int)=((aftR f s (k,x) w).1)∧false=((aftR f s (k,x) w).2)∧(([]:List SV)=[]))∧(True))) ∧
 ((((decide (w<(0:Int)))||(decide (w > (x+s))))||(decide (w<(x-s))))=false →
  ((k==(1:Int))=true →
   (I64 (f-w))∧(((f-w)=((aftR f s (k,x) w).1)∧(decide (w≤f))=((aftR f s (k,x) w).2)∧(([]:List SV)=[]))∧(True))) ∧
  ((k==(1:Int))=false →
   ((k==(2:Int))=true →
    (I64 (f+w))∧(((f+w)=((aftR f s (k,x) w).1)∧true=((aftR f s (k,x) w).2)∧(([]:List SV)=[]))∧(True))) ∧
   ((k==(2:Int))=false →
    ((f=((aftR f s (k,x) w).1)∧(f==w)=((aftR f s (k,x) w).2)∧(([]:List SV)=[]))∧(True)))))
def cx_ref09_After:Cx:=⟨[],[],47,[],0,[],[],[],[],false,[],[],[],[]⟩
def lp_ref09_After (f:Int) (s:Int) (k:Int) (x:Int) (w:Int):List (Nat×LoopAnn):=[]
set_option maxRecDepth 100000 in
theorem vq_ref09_After (d:Int×Int×(Int×Int)×Int):gwp (cx_ref09_After) (lp_ref09_After d.1 d.2.1 d.2.2.1.1 d.2.2.1.2 d.2.2.2) c67 0 (gend [.tmp 8,.tmp 9] (res_ref09_After d) (obs_ref09_After d)) (gstart 47 (AL.can al_ref09_After d))=vc_ref09_After d.1 d.2.1 d.2.2.1.1 d.2.2.1.2 d.2.2.2:=by kernel_rfl
abbrev Ok_ref09_After:Prop:=OkC Tryz.prog 67 s_ref09_After
theorem mk_ref09_After (h:∀ (f:Int) (s:Int) (k:Int) (x:Int) (w:Int),(0≤s∧s≤1000∧0≤x∧x≤12000000∧-1000000000≤f∧f≤1000000000∧-1000000000≤w∧w≤1000000000)→vc_ref09_After f s k x w):OkC Tryz.prog 67 s_ref09_After :=
 okC_vc fun67 mixed (C:=cx_ref09_After) (V:=fun (d:Int×Int×(Int×Int)×Int)=>vc_ref09_After d.1 d.2.1 d.2.2.1.1 d.2.2.1.2 d.2.2.2) ⟨.nil,XsOk.nil,ItsOk.nil,YlOk.nil,IysOk.nil,XfOk.nil⟩ (vq_ref09_After) fun d hp=>h d.1 d.2.1 d.2.2.1.1 d.2.2.1.2 d.2.2.2 hp
theorem ok_ref09_After:Ok_ref09_After:=mk_ref09_After fun f s k x w h=>by
 obtain⟨h1,h2,h3,h4,h5,h6,h7,h8⟩:=h;unfold vc_ref09_After aftR;(try delta lI gD sT I64)
 dsimp only;have hI:∀ e:Int,-2000000000≤e→e≤2000000000→InK .i64 e:=fun e _ _=>by simp only[InK_i64];omega
 have hc:((((decide (w<0))||(decide (w > (x+s))))||(decide (w<(x-s))))=true)↔(w<0∨w > x+s∨w<x-s):=by simp[or_assoc]
 refine⟨fun _=>hI _ (by omega) (by omega),fun _=>hI _ (by omega) (by omega),fun c=>?_,fun c=>?_⟩
 ·rw[if_pos (hc.1 c)];exact(by and_intros<;>first|rfl|trivial|simp)
 ·rw[if_neg (fun hh=>by have:=hc.2 hh;rw[c] at this;cases this)]
  refine⟨fun d=>?_,fun d=>⟨fun e=>?_,fun e=>?_⟩⟩
  ·have d:k=1:=by simpa using d
   rw[if_pos d];exact⟨hI _ (by omega) (by omega),(by and_intros<;>first|rfl|trivial|simp)⟩
  ·have d:¬ k=1:=by simpa using d
   have e:k=2:=by simpa using e
   rw[if_neg d,if_pos e];exact⟨hI _ (by omega) (by omega),(by and_intros<;>first|rfl|trivial|simp)⟩
  ·have d:¬ k=1:=by simpa using d
   have e:¬ k=2:=by simpa using e
   rw[if_neg d,if_neg e];exact(by and_intros<;>first|rfl|trivial|simp)
def al_law09_Ledger_small:AL (Int×Int×List (Int×Int)):=(.one (.agg (.cons (.k (.i .i64)) (.cons (.k (.i .i64)) (.one (.k (.list (.pair (.i .i64) (.i .i64)))))))))
def pre_law09_Ledger_small (d:Int×Int×List (Int×Int)):Prop:=d.2.2.length≤9223372036854775807
def res_law09_Ledger_small (d:Int×Int×List (Int×Int)):SV:=.val .bo (smallB d.1 d.2.1 d.2.2)
def obs_law09_Ledger_small (d:Int×Int×List (Int×Int)):List OB:=[]
def s_law09_Ledger_small:CSp:=mkSp al_law09_Ledger_small pre_law09_Ledger_small res_law09_Ledger_small obs_law09_Ledger_small
def vc_law09_Ledger_small (g:Int) (s:Int) (l:List (Int×Int)):Prop :=
 ∃ (e3:Unit) (d30:Int),((True∧(0:Int)=d30∧True)∧((g=g∧s=s∧l=l∧(([]:List SV)=[]))∧True)) ∧
 LoopP (fun (d3:Int) (q3:(Int)→Prop) =>
  ((decide (d3<(lI l)))=true →
   (0≤d3)∧(d3<(List.length l))∧((decide ((gD l d3 (0,0)).2 > (60:Int)))=true →
    (false=(smallB g s l)∧(True))) ∧
   ((decide ((gD l d3 (0,0)).2 > (60:Int)))=false →
    (I64 (d3+(1:Int)))∧(∃ d4:Int,((True∧(d3+(1:Int))=d4∧True)∧((g=g∧s=s∧l=l∧(([]:List SV)=[]))∧True))∧q3 d4))) ∧
  ((decide (d3<(lI l)))=false →
   ((((decide ((lI l)≤(8:Int)))&&(decide (g≤(60:Int))))&&(decide (s≤(4:Int))))=(smallB g s l)∧(True)))) d30
def cx_law09_Ledger_small:Cx:=⟨[],[],32,[],0,[],[],[],[],false,[],[],[],[]⟩
def lp_law09_Ledger_small (g:Int) (s:Int) (l:List (Int×Int)):List (Nat×LoopAnn):=[(0,⟨Unit,Int,[1,3],fun e x=>[.box 1 0,.val (.i .i64) x],fun e x=>[(1,.slot 1,.cells [.val (.i .i64) g,.val (.i .i64) s,.val (.list (.pair (.i .i64) (.i .i64))) l] (some 55))]⟩)]
set_option maxRecDepth 100000 in
theorem vq_law09_Ledger_small (d:Int×Int×List (Int×Int)):gwp (cx_law09_Ledger_small) (lp_law09_Ledger_small d.1 d.2.1 d.2.2) c30 0 (gend [.tmp 2] (res_law09_Ledger_small d) (obs_law09_Ledger_small d)) (gstart 32 (AL.can al_law09_Ledger_small d))=vc_law09_Ledger_small d.1 d.2.1 d.2.2:=by kernel_rfl
abbrev Ok_law09_Ledger_small:Prop:=OkC Tryz.prog 30 s_law09_Ledger_small
theorem mk_law09_Ledger_small (h:∀ (g:Int) (s:Int) (l:List (Int×Int)),(l.length≤9223372036854775807)→vc_law09_Ledger_small g s l):OkC Tryz.prog 30 s_law09_Ledger_small :=
 okC_vc fun30 mixed (C:=cx_law09_Ledger_small) (V:=fun (d:Int×Int×List (Int×Int))=>vc_law09_Ledger_small d.1 d.2.1 d.2.2) ⟨.nil,XsOk.nil,ItsOk.nil,YlOk.nil,IysOk.nil,XfOk.nil⟩ (vq_law09_Ledger_small) fun d hp=>h d.1 d.2.1 d.2.2 hp
theorem ok_law09_Ledger_small:Ok_law09_Ledger_small:=mk_law09_Ledger_small fun g s l h=>by
 unfold vc_law09_Ledger_small;(try delta lI gD sT I64)
 refine⟨(),0,(by and_intros<;>first|rfl|trivial|simp),?_⟩
 refine LoopP.count l.length (fun k=>∀ j (h:j<l.length),j<k→¬ l[j].2 > 60) (fun j _ hj=>by omega) ?_
 rintro k hk hJ q hq;simp only[Int.toNat_natCast];refine⟨fun hkl=>?_,fun hkl=>?_⟩
 ·have hkl:k<l.length:=by simp at hkl;omega
  simp only[getD_nat hkl];refine⟨by omega,by omega,fun c=>?_,fun c=>?_⟩
  ·have c:l[k].2 > 60:=by simpa using c
   have:(l.any fun x=>decide (x.2 > 60))=true:=List.any_eq_true.2 ⟨l[k],List.getElem_mem hkl,by simpa using c⟩
   unfold smallB;rw[this];exact(by and_intros<;>first|rfl|trivial|simp)
  ·have c:¬ l[k].2 > 60:=by simpa using c
   refine⟨by simp only[InK_i64];omega,(k:Int)+1,(by and_intros<;>first|rfl|trivial|simp),hq hkl fun j h1 h2=>?_⟩
   by_cases e:j=k
   ·subst e;exact c
   ·exact hJ j h1 (by omega)
 ·have:(l.any fun x=>decide (x.2 > 60))=false:=by
   rw[List.any_eq_false];intro x hx;obtain⟨j,hj,rfl⟩:=List.getElem_of_mem hx;simpa using hJ j hj (by simp at hkl;omega)
  unfold smallB;rw[this];simp[Bool.and_assoc]
def ala_ref09_Ends:AL (Unit):=.nil
def pre_ref09_Ends (m:List (Int×Bool)) (a:Unit):Prop:=True
def res_ref09_Ends (m:List (Int×Bool)) (a:Unit):SV:=.agg [.val (.i .i64) ((endsM m).1),.val (.i .i64) ((endsM m).2)]
def x_ref09_Ends:XSp:=lentN apNone (.i .i64) .bo (lspN ala_ref09_Ends pre_ref09_Ends res_ref09_Ends)
def vc_ref09_Ends (m:List (Int×Bool)) :Prop :=
 ∃ (e3:Unit) (d30:Int×Int×(List Nat)),((True∧True∧True∧True)∧(((0:Int)=(0:Int)∧(0:Int)=(0:Int)∧(([]:List SV)=[]))∧((1099511627776:Int)=d30.1∧(-1:Int)=d30.2.1∧(([]:List SV)=[]))∧(m=m∧([]:List Nat)=d30.2.2)∧True)) ∧
 LoopP (fun (d3:Int×Int×(List Nat)) (q3:(Int×Int×(List Nat))→Prop) =>
  ((∀ r:Nat,r<(List.length m)→r∈d3.2.2) →
   (false=true →
    (d3.2.2≠[])∧(∃ d5:Int×Int×(List Nat),((True∧True∧True∧True)∧(((0:Int)=(0:Int)∧(0:Int)=(0:Int)∧(([]:List SV)=[]))∧((gmin d3.1 (List.getD m (List.getLastD d3.2.2 0) (0,false)).1)=d5.1∧(gmax d3.2.1 (List.getD m (List.getLastD d3.2.2 0) (0,false)).1)=d5.2.1∧(([]:List SV)=[]))∧(m=m∧d3.2.2=d5.2.2)∧True))∧q3 d5)) ∧
   (false=false →
    ((d3.1=((endsM m).1)∧d3.2.1=((endsM m).2)∧(([]:List SV)=[]))))) ∧
  (∀ r4:Nat,r4<(List.length m)→r4∉d3.2.2 →
   (true=true →
    ((d3.2.2++[r4])≠[])∧(∃ d6:Int×Int×(List Nat),((True∧True∧True∧True)∧(((0:Int)=(0:Int)∧(0:Int)=(0:Int)∧(([]:List SV)=[]))∧((gmin d3.1 (List.getD m (List.getLastD (d3.2.2++[r4]) 0) (0,false)).1)=d6.1∧(gmax d3.2.1 (List.getD m (List.getLastD (d3.2.2++[r4]) 0) (0,false)).1)=d6.2.1∧(([]:List SV)=[]))∧(m=m∧(d3.2.2++[r4])=d6.2.2)∧True))∧q3 d6)) ∧
   (true=false →
    ((d3.1=((endsM m).1)∧d3.2.1=((endsM m).2)∧(([]:List SV)=[])))))) d30
def cx_ref09_Ends:Cx:=⟨[],[],22,[],0,[],[],[],[],false,[],[],[],[]⟩
def lp_ref09_Ends (m:List (Int×Bool)) :List (Nat×LoopAnn):=[(0,⟨Unit,Int×Int×(List Nat),[2,3,7],fun e x=>[.box 2 0,.box 3 0,.box 7 0],fun e x=>[(2,.slot 2,.cells [.val (.i .i64) (0:Int),.val (.i .i64) (0:Int)] (some 59)),(3,.slot 3,.cells [.val (.i .i64) x.1,.val (.i .i64) x.2.1] (some 59)),(7,.slot 7,.iter (.i .i64) .bo m x.2.2)]⟩)]
set_option maxRecDepth 100000 in
theorem vq_ref09_Ends (m:List (Int×Bool)) (a:Unit):gwp cx_ref09_Ends (lp_ref09_Ends m ) c35 0 (nendK [.cell 2 true 2] (res_ref09_Ends m a)) (nstart 22 (.i .i64) .bo m (AL.can ala_ref09_Ends a))=vc_ref09_Ends m :=by kernel_rfl
abbrev Ok_ref09_Ends:Prop:=XOkM Tryz.prog 35 x_ref09_Ends 0
theorem mk_ref09_Ends (h:∀ (m:List (Int×Bool)) ,(True)→vc_ref09_Ends m ):XOkM Tryz.prog 35 x_ref09_Ends 0 :=
 lentN_vc fun35 mixed apNone_ok (C:=cx_ref09_Ends) ⟨.nil,XsOk.nil,ItsOk.nil,YlOk.nil,IysOk.nil,XfOk.nil⟩ (L:=fun m (a:Unit)=>lp_ref09_Ends m ) (V:=fun m (a:Unit)=>vc_ref09_Ends m ) vq_ref09_Ends fun m a hp=>h m  hp
theorem okx_ref09_Ends:Ok_ref09_Ends:=mk_ref09_Ends fun m _=>by
 unfold vc_ref09_Ends;(try delta lI gD sT I64)
 refine⟨(),(1099511627776,-1,[]),(by and_intros<;>first|rfl|trivial|simp),?_⟩
 refine⟨fun d=>d.2.2.Nodup∧(∀ r∈d.2.2,r<m.length)∧d.1=(endsM (d.2.2.map fun r=>m.getD r (0,false))).1∧d.2.1=(endsM (d.2.2.map fun r=>m.getD r (0,false))).2,fun d=>m.length-d.2.2.length,⟨List.nodup_nil,(fun r hr=>by cases hr),rfl,rfl⟩,?_⟩
 rintro⟨lo,hi,vis⟩ ⟨i1,i2,i3,i4⟩;dsimp only at i1 i2 i3 i4 ⊢;subst i3 i4;refine⟨fun hall=>⟨(fun hf=>by cases hf),fun _=>?_⟩,fun r hr hnr=>⟨fun _=>?_,(fun hf=>by cases hf)⟩⟩
 ·have:endsM (vis.map fun r=>m.getD r (0,false))=endsM m:=ends_ext fun p=>by
   rw[List.mem_map];constructor
   ·rintro⟨r,hr,rfl⟩;rw[getD_nat (i2 r hr)];exact List.getElem_mem _
   ·intro hp;obtain⟨r,hr,rfl⟩:=List.getElem_of_mem hp;exact⟨r,hall r hr,getD_nat hr⟩
  rw[this];exact(by and_intros<;>first|rfl|trivial|simp)
 ·obtain⟨v1,v2,v3,v4⟩:=vis_add i1 i2 hr hnr;rw[v3];refine⟨by simp,(gmin _ _,gmax _ _,vis++[r]),(by and_intros<;>first|rfl|trivial|simp),⟨v1,v2,?_,?_⟩,v4⟩<;>(dsimp only;unfold endsM;simp only[List.map_append,List.foldl_append,List.map_cons,List.map_nil,List.foldl_cons,List.foldl_nil])
def ala_ref09_Left:AL (Int×Int×(List (Int×Int))×Int×Int):=(.cons (.k (.i .i64)) (.cons (.k (.i .i64)) (.cons (.k (.list (.pair (.i .i64) (.i .i64)))) (.cons (.k (.i .i64)) (.one (.k (.i .i64)))))))
def pre_ref09_Left (a:Int×Int×(List (Int×Int))×Int×Int):Prop:=bookOk a.1 a.2.1 a.2.2.1∧-1≤a.2.2.2.1∧-1000000000≤a.2.2.2.2∧a.2.2.2.2≤1000000000
def res_ref09_Left (a:Int×Int×(List (Int×Int))×Int×Int):List SV:=[.val (.i .i64) (lefW a.1 a.2.1 a.2.2.1 a.2.2.2.1 a.2.2.2.2)]
def post_ref09_Left (a:Int×Int×(List (Int×Int))×Int×Int) (m:List (Int×Bool)):Prop:=lefP a.1 a.2.1 a.2.2.1 a.2.2.2.1 a.2.2.2.2 m
def x_ref09_Left:XSp:=callP apNone (.i .i64) .bo (pspP ala_ref09_Left pre_ref09_Left res_ref09_Left post_ref09_Left)
def vc_ref09_Left (g:Int) (s:Int) (l:List (Int×Int)) (en:Int) (wa:Int):Prop :=
 ∃ (e2:Unit) (d20:(List (Int×Bool))×Int),((s=s∧l=l∧en=en∧wa=wa∧True∧(0:Int)=d20.2∧True)∧(((aput (.i .i64) ([]:List (Int×Bool)) g true)=d20.1)∧True)) ∧
 LoopP (fun (d2:(List (Int×Bool))×Int) (q2:((List (Int×Bool))×Int)→Prop) =>
  ((decide (d2.2<(lI l)))=true →
   ∃ (e5:Int×(List (Int×Bool))) (d50:(List (Int×Bool))×(List Nat)),((s=s∧l=l∧en=en∧wa=wa∧d2.2=e5.1∧True∧True∧True)∧((([]:List (Int×Bool))=d50.1)∧(d2.1=e5.2∧([]:List Nat)=d50.2)∧True)) ∧
   LoopP (fun (d5:(List (Int×Bool))×(List Nat)) (q5:((List (Int×Bool))×(List Nat))→Prop) =>
    ((∀ r:Nat,r<(List.length e5.2)→r∈d5.2) →
     (false=true →
      (d5.2≠[])∧(0≤e5.1)∧(e5.1<(List.length l))∧(I64 ((gD l e5.1 (0,0)).2-s))∧∃ (e9:Int×Int×(List (Int×Bool))×(List Nat)) (d90:(List (Int×Bool))×Int),((s=s∧l=l∧en=en∧wa=wa∧e5.1=e9.1∧True∧(List.getD e5.2 (List.getLastD d5.2 0) (0,false)).1=e9.2.1∧(gmax (0:Int) ((gD l e5.1 (0,0)).2-s))=d90.2∧True∧True)∧((d5.1=d90.1)∧(e5.2=e9.2.2.1∧d5.2=e9.2.2.2)∧True)) ∧
      LoopP (fun (d9:(List (Int×Bool))×Int) (q9:((List (Int×Bool))×Int)→Prop) =>
       (0≤e9.1)∧(e9.1<(List.length l))∧(I64 ((gD l e9.1 (0,0)).2+s))∧((decide (d9.2≤((gD l e9.1 (0,0)).2+s)))=true →
        (((e9.1==en)&&(d9.2 != wa))=true →
         (I64 (d9.2+(1:Int)))∧(∃ d10:(List (Int×Bool))×Int,((s=s∧l=l∧en=en∧wa=wa∧e9.1=e9.1∧True∧e9.2.1=e9.2.1∧(d9.2+(1:Int))=d10.2∧True∧True)∧((d9.1=d10.1)∧(e9.2.2.1=e9.2.2.1∧e9.2.2.2=e9.2.2.2)∧True))∧q9 d10)) ∧
        (((e9.1==en)&&(d9.2 != wa))=false →
         (0≤e9.1)∧(e9.1<(List.length l))∧(0≤s∧s≤1000∧0≤((gD l e9.1 (0,0)).2)∧((gD l e9.1 (0,0)).2)≤12000000∧-1000000000≤e9.2.1∧e9.2.1≤1000000000∧-1000000000≤d9.2∧d9.2≤1000000000)∧(((aftR e9.2.1 s (((gD l e9.1 (0,0)).1),((gD l e9.1 (0,0)).2)) d9.2).2)=true →
          (I64 (d9.2+(1:Int)))∧(∃ d11:(List (Int×Bool))×Int,((s=s∧l=l∧en=en∧wa=wa∧e9.1=e9.1∧True∧e9.2.1=e9.2.1∧(d9.2+(1:Int))=d11.2∧True∧True)∧(((aput (.i .i64) d9.1 ((aftR e9.2.1 s (((gD l e9.1 (0,0)).1),((gD l e9.1 (0,0)).2)) d9.2).1) true)=d11.1)∧(e9.2.2.1=e9.2.2.1∧e9.2.2.2=e9.2.2.2)∧True))∧q9 d11)) ∧
         (((aftR e9.2.1 s (((gD l e9.1 (0,0)).1),((gD l e9.1 (0,0)).2)) d9.2).2)=false →
          (I64 (d9.2+(1:Int)))∧(∃ d12:(List (Int×Bool))×Int,((s=s∧l=l∧en=en∧wa=wa∧e9.1=e9.1∧True∧e9.2.1=e9.2.1∧(d9.2+(1:Int))=d12.2∧True∧True)∧((d9.1=d12.1)∧(e9.2.2.1=e9.2.2.1∧e9.2.2.2=e9.2.2.2)∧True))∧q9 d12)))) ∧
       ((decide (d9.2≤((gD l e9.1 (0,0)).2+s)))=false →
        (∃ d13:(List (Int×Bool))×(List Nat),((s=s∧l=l∧en=en∧wa=wa∧e9.1=e5.1∧True∧True∧True)∧((d9.1=d13.1)∧(e9.2.2.1=e5.2∧e9.2.2.2=d13.2)∧True))∧q5 d13))) d90) ∧
     (false=false →
      (((lI d5.1)==(0:Int))=true →
       ((e5.1=(lefW g s l en wa)∧(([]:List SV)=[]))∧(lefP g s l en wa d5.1))) ∧
      (((lI d5.1)==(0:Int))=false →
       (I64 (e5.1+(1:Int)))∧(∃ d14:(List (Int×Bool))×Int,((s=s∧l=l∧en=en∧wa=wa∧True∧(e5.1+(1:Int))=d14.2∧True)∧((d5.1=d14.1)∧True))∧q2 d14)))) ∧
    (∀ r6:Nat,r6<(List.length e5.2)→r6∉d5.2 →
     (true=true →
      ((d5.2++[r6])≠[])∧(0≤e5.1)∧(e5.1<(List.length l))∧(I64 ((gD l e5.1 (0,0)).2-s))∧∃ (e17:Int×Int×(List (Int×Bool))×(List Nat)) (d170:(List (Int×Bool))×Int),((s=s∧l=l∧en=en∧wa=wa∧e5.1=e17.1∧True∧(List.getD e5.2 (List.getLastD (d5.2++[r6]) 0) (0,false)).1=e17.2.1∧(gmax (0:Int) ((gD l e5.1 (0,0)).2-s))=d170.2∧True∧True)∧((d5.1=d170.1)∧(e5.2=e17.2.2.1∧(d5.2++[r6])=e17.2.2.2)∧True)) ∧
      LoopP (fun (d17:(List (Int×Bool))×Int) (q17:((List (Int×Bool))×Int)→Prop) =>
       (0≤e17.1)∧(e17.1<(List.length l))∧(I64 ((gD l e17.1 (0,0)).2+s))∧((decide (d17.2≤((gD l e17.1 (0,0)).2+s)))=true →
        (((e17.1==en)&&(d17.2 != wa))=true →
         (I64 (d17.2+(1:Int)))∧(∃ d18:(List (Int×Bool))×Int,((s=s∧l=l∧en=en∧wa=wa∧e17.1=e17.1∧True∧e17.2.1=e17.2.1∧(d17.2+(1:Int))=d18.2∧True∧True)∧((d17.1=d18.1)∧(e17.2.2.1=e17.2.2.1∧e17.2.2.2=e17.2.2.2)∧True))∧q17 d18)) ∧
        (((e17.1==en)&&(d17.2 != wa))=false →
         (0≤e17.1)∧(e17.1<(List.length l))∧(0≤s∧s≤1000∧0≤((gD l e17.1 (0,0)).2)∧((gD l e17.1 (0,0)).2)≤12000000∧-1000000000≤e17.2.1∧e17.2.1≤1000000000∧-1000000000≤d17.2∧d17.2≤1000000000)∧(((aftR e17.2.1 s (((gD l e17.1 (0,0)).1),((gD l e17.1 (0,0)).2)) d17.2).2)=true →
          (I64 (d17.2+(1:Int)))∧(∃ d19:(List (Int×Bool))×Int,((s=s∧l=l∧en=en∧wa=wa∧e17.1=e17.1∧True∧e17.2.1=e17.2.1∧(d17.2+(1:Int))=d19.2∧True∧True)∧(((aput (.i .i64) d17.1 ((aftR e17.2.1 s (((gD l e17.1 (0,0)).1),((gD l e17.1 (0,0)).2)) d17.2).1) true)=d19.1)∧(e17.2.2.1=e17.2.2.1∧e17.2.2.2=e17.2.2.2)∧True))∧q17 d19)) ∧
         (((aftR e17.2.1 s (((gD l e17.1 (0,0)).1),((gD l e17.1 (0,0)).2)) d17.2).2)=false →
          (I64 (d17.2+(1:Int)))∧(∃ d20:(List (Int×Bool))×Int,((s=s∧l=l∧en=en∧wa=wa∧e17.1=e17.1∧True∧e17.2.1=e17.2.1∧(d17.2+(1:Int))=d20.2∧True∧True)∧((d17.1=d20.1)∧(e17.2.2.1=e17.2.2.1∧e17.2.2.2=e17.2.2.2)∧True))∧q17 d20)))) ∧
       ((decide (d17.2≤((gD l e17.1 (0,0)).2+s)))=false →
        (∃ d21:(List (Int×Bool))×(List Nat),((s=s∧l=l∧en=en∧wa=wa∧e17.1=e5.1∧True∧True∧True)∧((d17.1=d21.1)∧(e17.2.2.1=e5.2∧e17.2.2.2=d21.2)∧True))∧q5 d21))) d170) ∧
     (true=false →
      (((lI d5.1)==(0:Int))=true →
       ((e5.1=(lefW g s l en wa)∧(([]:List SV)=[]))∧(lefP g s l en wa d5.1))) ∧
      (((lI d5.1)==(0:Int))=false →
       (I64 (e5.1+(1:Int)))∧(∃ d22:(List (Int×Bool))×Int,((s=s∧l=l∧en=en∧wa=wa∧True∧(e5.1+(1:Int))=d22.2∧True)∧((d5.1=d22.1)∧True))∧q2 d22))))) d50) ∧
  ((decide (d2.2<(lI l)))=false →
   (((-1:Int)=(lefW g s l en wa)∧(([]:List SV)=[]))∧(lefP g s l en wa d2.1)))) d20
def cx_ref09_Left:Cx:=⟨[(1000019,(.pair (.i .i64) .bo)),(1000028,(.pair (.i .i64) .bo))],[(67,s_ref09_After)],83,[],0,[],[],[],[],false,[],[],[],[]⟩
def lp_ref09_Left (g:Int) (s:Int) (l:List (Int×Int)) (en:Int) (wa:Int):List (Nat×LoopAnn):=[(0,⟨Unit,(List (Int×Bool))×Int,[1,2,3,4,12,13],fun e x=>[.val (.i .i64) s,.val (.list (.pair (.i .i64) (.i .i64))) l,.val (.i .i64) en,.val (.i .i64) wa,.map 19,.val (.i .i64) x.2],fun e x=>[(19,.slot 12,.map (.i .i64) .bo x.1)]⟩),
 (2,⟨Int×(List (Int×Bool)),(List (Int×Bool))×(List Nat),[1,2,3,4,13,14,30],fun e x=>[.val (.i .i64) s,.val (.list (.pair (.i .i64) (.i .i64))) l,.val (.i .i64) en,.val (.i .i64) wa,.val (.i .i64) e.1,.map 28,.box 30 0],fun e x=>[(28,.slot 14,.map (.i .i64) .bo x.1),(30,.slot 30,.iter (.i .i64) .bo e.2 x.2)]⟩),
 (4,⟨Int×Int×(List (Int×Bool))×(List Nat),(List (Int×Bool))×Int,[1,2,3,4,13,14,15,16,30],fun e x=>[.val (.i .i64) s,.val (.list (.pair (.i .i64) (.i .i64))) l,.val (.i .i64) en,.val (.i .i64) wa,.val (.i .i64) e.1,.map 28,.val (.i .i64) e.2.1,.val (.i .i64) x.2,.box 30 0],fun e x=>[(28,.slot 14,.map (.i .i64) .bo x.1),(30,.slot 30,.iter (.i .i64) .bo e.2.2.1 e.2.2.2)]⟩)]
set_option maxRecDepth 100000 in
theorem vq_ref09_Left (a:Int×Int×(List (Int×Int))×Int×Int):gwp cx_ref09_Left (lp_ref09_Left a.1 a.2.1 a.2.2.1 a.2.2.2.1 a.2.2.2.2) c34 0 (pendK [.tmp 10,.tmp 11] (.i .i64) .bo (res_ref09_Left a) (post_ref09_Left a)) (pstart 83 (AL.can ala_ref09_Left a))=vc_ref09_Left a.1 a.2.1 a.2.2.1 a.2.2.2.1 a.2.2.2.2:=by kernel_rfl
abbrev Ok_ref09_Left:Prop:=XOk Tryz.prog 34 x_ref09_Left
theorem mk_ref09_Left (h:∀ (g:Int) (s:Int) (l:List (Int×Int)) (en:Int) (wa:Int),(bookOk g s l∧-1≤en∧-1000000000≤wa∧wa≤1000000000)→vc_ref09_Left g s l en wa):XOk Tryz.prog 34 x_ref09_Left :=
 callP_vc fun34 mixed apNone_ok rfl (C:=cx_ref09_Left) ⟨(.cons ok_ref09_After .nil),XsOk.nil,ItsOk.nil,YlOk.nil,IysOk.nil,XfOk.nil⟩ (L:=fun (a:Int×Int×(List (Int×Int))×Int×Int)=>lp_ref09_Left a.1 a.2.1 a.2.2.1 a.2.2.2.1 a.2.2.2.2) (V:=fun (a:Int×Int×(List (Int×Int))×Int×Int)=>vc_ref09_Left a.1 a.2.1 a.2.2.1 a.2.2.2.1 a.2.2.2.2) vq_ref09_Left fun a hp=>h a.1 a.2.1 a.2.2.1 a.2.2.2.1 a.2.2.2.2 hp
theorem okx_ref09_Left:Ok_ref09_Left:=mk_ref09_Left fun g s l en wa h=>by
 obtain⟨hb,h1,h2,h3⟩:=h;unfold vc_ref09_Left;(try delta lI gD sT I64)
 have hI:∀ e:Int,-2000000000≤e→e≤2000000000→InK .i64 e:=fun e _ _=>by simp only[InK_i64];omega
 have hs0:=hb.2.2.1;have hs1:=hb.2.2.2.1;have hl:=hb.2.2.2.2.1;refine⟨(),(aput (.i .i64) ([]:List (Int×Bool)) g true,0),(by and_intros<;>first|rfl|trivial|simp),?_⟩
 refine LoopP.count2 l.length (fun k m=>(∀ n,keyM m n↔InB (lefS g s l en wa k) n)∧∀ j,j<k→Ne (lefS g s l en wa (j+1))) ⟨fun n=>?_,fun j hj=>by omega⟩ ?_
 ·rw[keyM_aput];unfold keyM InB lefS;simp;omega
 rintro k M hk ⟨hM,hne⟩ q hq;dsimp only;refine⟨fun hkl=>?_,fun hkl=>?_⟩
 ·have hkl:k<l.length:=by simp at hkl;omega
  have hx:enOk (l.getD k (0,0)):=by rw[getD_nat hkl];exact hb.2.2.2.2.2 _ (List.getElem_mem _)
  obtain⟨hnk,hbd⟩:=lef_bd hb k hk hne;have hst:=@lef_step g s l en wa k hx hnk;obtain⟨x,hxe⟩:∃ x,l.getD k (0,0)=x:=⟨_,rfl⟩;rw[hxe] at hx hst;refine⟨((k:Int),M),([],[]),(by and_intros<;>first|rfl|trivial|simp),?_⟩
  dsimp only;refine⟨fun d=>d.2.Nodup∧(∀ r∈d.2,r<M.length)∧∀ n,keyM d.1 n↔∃ r∈d.2,∃ w,((k:Int)=en→w=wa)∧okT s (M.getD r (0,false)).1 x w∧stepT (M.getD r (0,false)).1 x w=n,fun d=>M.length-d.2.length,⟨List.nodup_nil,(fun r hr=>by cases hr),fun n=>?_⟩,?_⟩
  ·unfold keyM;simp
  rintro⟨N,vis⟩ ⟨i1,i2,i3⟩;dsimp only at i1 i2 i3 ⊢;refine⟨fun hall=>⟨(fun hf=>by cases hf),fun _=>?_⟩,fun r hr hnr=>⟨fun _=>?_,(fun hf=>by cases hf)⟩⟩
  ·have hfin:∀ n,keyM N n↔InB (lefS g s l en wa (k+1)) n:=fun n=>by
    rw[i3,hst];constructor
    ·rintro⟨r,hr,w,a1,a2,a3⟩;have hr2:=i2 r hr;exact⟨_,w,(hM _).1 ⟨_,List.getElem_mem hr2,by rw[getD_nat hr2]⟩,a1,a2,a3⟩
    ·rintro⟨a,w,a0,a1,a2,a3⟩;obtain⟨p,hp,rfl⟩:=(hM a).2 a0;obtain⟨r,hr,rfl⟩:=List.getElem_of_mem hp;exact⟨r,hall r hr,w,a1,by rw[getD_nat hr];exact a2,by rw[getD_nat hr];exact a3⟩
   refine⟨fun c=>?_,fun c=>?_⟩
   ·have hN:N=[]:=by
     cases N with
     |nil=>rfl
     |cons p N=>simp at c;omega
    have hnn:¬ Ne (lefS g s l en wa (k+1)):=fun hne2=>by
     obtain⟨p,hp,_⟩:=(hfin _).2 ⟨Int.le_refl _,hne2⟩;rw[hN] at hp;cases hp
    have hw:=lefW_at hkl hne hnn;refine⟨?_,fun hlt=>by rw[hw] at hlt;omega⟩
    rw[hw];exact(by and_intros<;>first|rfl|trivial|simp)
   ·have hNe:Ne (lefS g s l en wa (k+1)):=by
     cases N with
     |nil=>simp at c
     |cons p N=>have:=(hfin p.1).1 ⟨p,List.mem_cons_self ..,rfl⟩;unfold InB at this;unfold Ne;omega
    refine⟨hI _ (by omega) (by omega),(N,(k:Int)+1),(by and_intros<;>first|rfl|trivial|simp),hq N (by omega) ⟨hfin,fun j hj=>?_⟩⟩
    by_cases hjk:j=k
    ·subst hjk;exact hNe
    ·exact hne j (by omega)
  ·obtain⟨v1,v2,v3,v4⟩:=vis_add i1 i2 hr hnr;have hE:keyM M (M.getD r (0,false)).1:=⟨_,List.getElem_mem hr,by rw[getD_nat hr]⟩
   have hEb:=hbd _ ((hM _).1 hE);obtain⟨f,hf⟩:∃ f,(M.getD r (0,false)).1=f:=⟨_,rfl⟩;rw[v3];simp only[hf,Int.toNat_natCast,hxe];rw[hf] at hEb;obtain⟨x1,x2,x3,x4⟩:=hx;have hgm:=gmax_eq 0 (x.2-s);refine⟨by simp,by omega,by omega,hI _ (by omega) (by omega),((k:Int),f,M,vis++[r]),(N,gmax 0 (x.2-s)),(by and_intros<;>first|rfl|trivial|simp),?_⟩
   dsimp only;simp only[Int.toNat_natCast,hxe];refine⟨fun d=>gmax 0 (x.2-s)≤d.2∧d.2≤x.2+s+1∧∀ n,keyM d.1 n↔keyM N n∨∃ w,gmax 0 (x.2-s)≤w∧w<d.2∧((k:Int)=en→w=wa)∧okT s f x w∧stepT f x w=n,fun d=>(x.2+s+1-d.2).toNat,⟨Int.le_refl _,by dsimp only;omega,fun n=>⟨.inl,?_⟩⟩,?_⟩
   ·rintro (h|⟨w,a1,a2,_⟩)
    ·exact h
    ·dsimp only at a2;omega
   rintro⟨N',u⟩ ⟨j1,j2,j3⟩;dsimp only at j1 j2 j3 ⊢;have hstep:∀ N'',(∀ n,keyM N'' n↔keyM N' n∨(((k:Int)=en→u=wa)∧okT s f x u∧stepT f x u=n))→∀ n,keyM N'' n↔keyM N n∨∃ w,gmax 0 (x.2-s)≤w∧w<u+1∧((k:Int)=en→w=wa)∧okT s f x w∧stepT f x w=n:=fun N'' h n=>by
    rw[h,j3];constructor
    ·rintro ((h|⟨w,b1,b2,b3⟩)|h)
     ·exact .inl h
     ·exact .inr ⟨w,b1,by omega,b3⟩
     ·exact .inr ⟨u,j1,by omega,h⟩
    ·rintro (h|⟨w,b1,b2,b3⟩)
     ·exact .inl (.inl h)
     ·by_cases e:w=u
      ·subst e;exact .inr b3
      ·exact .inl (.inr ⟨w,b1,by omega,b3⟩)
   have hai:∀ n,(aftR f s x u).2=true∧(aftR f s x u).1=n↔okT s f x u∧stepT f x u=n:=fun n=>aftR_iff;refine⟨by omega,by omega,hI _ (by omega) (by omega),fun c=>?_,fun c=>?_⟩
   ·have c:u≤x.2+s:=by simpa using c
    refine⟨fun c2=>?_,fun c2=>⟨by omega,by omega,⟨by omega,by omega,by omega,by omega,by omega,by omega,by omega,by omega⟩,fun c3=>?_,fun c3=>?_⟩⟩
    ·have c2:(k:Int)=en∧u≠wa:=by simpa using c2
     refine⟨hI _ (by omega) (by omega),(N',u+1),(by and_intros<;>first|rfl|trivial|simp),⟨by dsimp only;omega,by dsimp only;omega,hstep N' fun n=>⟨.inl,?_⟩⟩,by dsimp only;omega⟩
     rintro (h|⟨h,_⟩)
     ·exact h
     ·exact(c2.2 (h c2.1)).elim
    ·have c2:(k:Int)=en→u=wa:=by simpa using c2
     refine⟨hI _ (by omega) (by omega),(aput (.i .i64) N' (aftR f s x u).1 true,u+1),(by and_intros<;>first|rfl|trivial|simp),⟨by dsimp only;omega,by dsimp only;omega,hstep _ fun n=>?_⟩,by dsimp only;omega⟩
     rw[keyM_aput,←hai];have c3:(aftR f s x u).2=true:=c3;constructor
     ·rintro (h|h)
      ·exact .inl h
      ·exact .inr ⟨c2,c3,h.symm⟩
     ·rintro (h|⟨_,_,h⟩)
      ·exact .inl h
      ·exact .inr h.symm
    ·refine⟨hI _ (by omega) (by omega),(N',u+1),(by and_intros<;>first|rfl|trivial|simp),⟨by dsimp only;omega,by dsimp only;omega,hstep N' fun n=>⟨.inl,?_⟩⟩,by dsimp only;omega⟩
     rw[←hai];have c3:(aftR f s x u).2=false:=c3;rintro (h|⟨_,h,_⟩)
     ·exact h
     ·rw[c3] at h;cases h
   ·have c:¬ u≤x.2+s:=by simpa using c
    refine⟨(N',vis++[r]),(by and_intros<;>first|rfl|trivial|simp),⟨v1,v2,fun n=>?_⟩,v4⟩
    dsimp only;rw[j3,i3];constructor
    ·rintro (⟨r',h1,h2⟩|⟨w,b1,b2,b3⟩)
     ·exact⟨r',List.mem_append_left _ h1,h2⟩
     ·exact⟨r,by simp,w,by rw[hf];exact b3⟩
    ·rintro⟨r',h1,w,b3⟩;rcases List.mem_append.1 h1 with h1|h1
     ·exact .inl ⟨r',h1,w,b3⟩
     ·rw[List.mem_singleton.1 h1,hf] at b3;have:=b3.2.1.1;unfold InB realB at this;exact .inr ⟨w,this.1,by have:=this.2;dsimp only at this;omega,b3⟩
 ·have hke:k=l.length:=by simp at hkl;omega
  subst hke;refine⟨?_,fun _=>hM⟩;rw[lefW_end hne];exact(by and_intros<;>first|rfl|trivial|simp)
end Go.Proofs.Tryz
set_option linter.unusedVariables false
namespace Go.Proofs.Tryz
open Go Go.V Go.Proofs
def al_law09_ShadeBooks:AL ((Int×Int×List (Int×Int))×Int):=(.cons (.agg (.cons (.k (.i .i64)) (.cons (.k (.i .i64)) (.one (.k (.list (.pair (.i .i64) (.i .i64)))))))) (.one (.k (.i .i64))))
def pre_law09_ShadeBooks (d:(Int×Int×List (Int×Int))×Int):Prop:=d.1.2.2.length≤9223372036854775807
def res_law09_ShadeBooks (d:(Int×Int×List (Int×Int))×Int):SV:=.val .bo true
def obs_law09_ShadeBooks (d:(Int×Int×List (Int×Int))×Int):List OB:=[]
def s_law09_ShadeBooks:CSp:=mkSp al_law09_ShadeBooks pre_law09_ShadeBooks res_law09_ShadeBooks obs_law09_ShadeBooks
def vc_law09_ShadeBooks (g:Int) (s:Int) (l:List (Int×Int)) (ei:Int):Prop :=
 (l.length≤9223372036854775807)∧((decide ((lI l) > (50:Int)))=false→((entErr g s l)==(0:Int))=true→l.length≤9223372036854775807)∧(((decide ((lI l) > (50:Int)))||(((entErr g s l)==(0:Int))&&(!(smallB g s l))))=true →
  (True)∧(true=true∧(True))) ∧
 (((decide ((lI l) > (50:Int)))||(((entErr g s l)==(0:Int))&&(!(smallB g s l))))=false →
  (l.length≤1000)∧(l.length≤1000)∧(l.length≤1000)∧∃ (e3:Unit) (d30:Int),((ei=ei∧True∧(entErr g s l)=(entErr g s l)∧True∧True∧(bookAt g s l)=(bookAt g s l)∧(bookErr g s l)=(bookErr g s l)∧True∧(wasErr g s l ei)=(wasErr g s l ei)∧(0:Int)=d30∧True)∧((g=g∧s=s∧l=l∧(([]:List SV)=[]))∧(l=l∧false=false)∧(((bookSp g s l).1)=((bookSp g s l).1)∧((bookSp g s l).2)=((bookSp g s l).2)∧(([]:List SV)=[]))∧(((wasSp g s l ei).1)=((wasSp g s l ei).1)∧((wasSp g s l ei).2)=((wasSp g s l ei).2)∧(([]:List SV)=[]))∧True)) ∧
  LoopP (fun (d3:Int) (q3:(Int)→Prop) =>
   ((decide (d3<(lI l)))=true →
    (0≤d3)∧(d3<(List.length l))∧(0≤d3)∧(d3<(List.length l))∧((!(((gD l d3 (0,0)).1==(gD l d3 (0,0)).1)&&((gD l d3 (0,0)).2==(gD l d3 (0,0)).2)))=true →
     (false=true∧(True))) ∧
    ((!(((gD l d3 (0,0)).1==(gD l d3 (0,0)).1)&&((gD l d3 (0,0)).2==(gD l d3 (0,0)).2)))=false →
     (I64 (d3+(1:Int)))∧(∃ d4:Int,((ei=ei∧True∧(entErr g s l)=(entErr g s l)∧True∧True∧(bookAt g s l)=(bookAt g s l)∧(bookErr g s l)=(bookErr g s l)∧True∧(wasErr g s l ei)=(wasErr g s l ei)∧(d3+(1:Int))=d4∧True)∧((g=g∧s=s∧l=l∧(([]:List SV)=[]))∧(l=l∧false=false)∧(((bookSp g s l).1)=((bookSp g s l).1)∧((bookSp g s l).2)=((bookSp g s l).2)∧(([]:List SV)=[]))∧(((wasSp g s l ei).1)=((wasSp g s l ei).1)∧((wasSp g s l ei).2)=((wasSp g s l ei).2)∧(([]:List SV)=[]))∧True))∧q3 d4))) ∧
   ((decide (d3<(lI l)))=false →
    (((entErr g s l) != (0:Int))=true →
     (((((((bookErr g s l)==(entErr g s l))&&((wasErr g s l ei)==(entErr g s l)))&&((bookAt g s l)==(0:Int)))&&((((bookSp g s l).1)==(0:Int))&&(((bookSp g s l).2)==(0:Int))))&&((((wasSp g s l ei).1)==(0:Int))&&(((wasSp g s l ei).2)==(0:Int))))=true→True)∧((((((((bookErr g s l)==(entErr g s l))&&((wasErr g s l ei)==(entErr g s l)))&&((bookAt g s l)==(0:Int)))&&((((bookSp g s l).1)==(0:Int))&&(((bookSp g s l).2)==(0:Int))))&&((((wasSp g s l ei).1)==(0:Int))&&(((wasSp g s l ei).2)==(0:Int))))&&true)=true∧(True))) ∧
    (((entErr g s l) != (0:Int))=false →
     (bookOk g s l∧-1≤(-1:Int)∧-1000000000≤(0:Int)∧(0:Int)≤1000000000)∧(∀ m5:List (Int×Bool),(lefP g s l (-1:Int) (0:Int) m5)→((decide ((lefW g s l (-1:Int) (0:Int))≥(0:Int)))=true →
      (((((((bookErr g s l)==(90:Int))&&((wasErr g s l ei)==(bookErr g s l)))&&((bookAt g s l)==(lefW g s l (-1:Int) (0:Int))))&&((((bookSp g s l).1)==(0:Int))&&(((bookSp g s l).2)==(0:Int))))&&((((wasSp g s l ei).1)==(0:Int))&&(((wasSp g s l ei).2)==(0:Int))))=true→True)∧((((((((bookErr g s l)==(90:Int))&&((wasErr g s l ei)==(bookErr g s l)))&&((bookAt g s l)==(lefW g s l (-1:Int) (0:Int))))&&((((bookSp g s l).1)==(0:Int))&&(((bookSp g s l).2)==(0:Int))))&&((((wasSp g s l ei).1)==(0:Int))&&(((wasSp g s l ei).2)==(0:Int))))&&true)=true∧(True))) ∧
     ((decide ((lefW g s l (-1:Int) (0:Int))≥(0:Int)))=false →
      (((((bookErr g s l) != (0:Int))||((bookAt g s l) != (0:Int)))=true →
       (true=true →
        (false=true∧(True))) ∧
       (true=false →
        (I64 ((lI l)-(1:Int)))∧(True)∧((!(inI ei (0:Int) ((lI l)-(1:Int))))=true →
         ((((wasErr g s l ei)==(7:Int))&&((((wasSp g s l ei).1)==(0:Int))&&(((wasSp g s l ei).2)==(0:Int))))=true→True)∧(((((wasErr g s l ei)==(7:Int))&&((((wasSp g s l ei).1)==(0:Int))&&(((wasSp g s l ei).2)==(0:Int))))&&true)=true∧(True))) ∧
        ((!(inI ei (0:Int) ((lI l)-(1:Int))))=false →
         ∃ (e8:Unit) (d80:(List (Int×Bool))×Int),((ei=ei∧True∧True∧(wasErr g s l ei)=(wasErr g s l ei)∧True∧(0:Int)=d80.2∧True)∧((g=g∧s=s∧l=l∧(([]:List SV)=[]))∧(((wasSp g s l ei).1)=((wasSp g s l ei).1)∧((wasSp g s l ei).2)=((wasSp g s l ei).2)∧(([]:List SV)=[]))∧(([]:List (Int×Bool))=d80.1)∧True)) ∧
         LoopP (fun (d8:(List (Int×Bool))×Int) (q8:((List (Int×Bool))×Int)→Prop) =>
          ((decide (d8.2≤(64:Int)))=true →
           (bookOk g s l∧-1≤ei∧-1000000000≤d8.2∧d8.2≤1000000000)∧(∀ m9:List (Int×Bool),(lefP g s l ei d8.2 m9)→((decide ((lefW g s l ei d8.2)<(0:Int)))=true →
            (I64 (d8.2+(1:Int)))∧(∃ d10:(List (Int×Bool))×Int,((ei=ei∧True∧True∧(wasErr g s l ei)=(wasErr g s l ei)∧True∧(d8.2+(1:Int))=d10.2∧True)∧((g=g∧s=s∧l=l∧(([]:List SV)=[]))∧(((wasSp g s l ei).1)=((wasSp g s l ei).1)∧((wasSp g s l ei).2)=((wasSp g s l ei).2)∧(([]:List SV)=[]))∧((aput (.i .i64) d8.1 d8.2 true)=d10.1)∧True))∧q8 d10)) ∧
           ((decide ((lefW g s l ei d8.2)<(0:Int)))=false →
            (I64 (d8.2+(1:Int)))∧(∃ d11:(List (Int×Bool))×Int,((ei=ei∧True∧True∧(wasErr g s l ei)=(wasErr g s l ei)∧True∧(d8.2+(1:Int))=d11.2∧True)∧((g=g∧s=s∧l=l∧(([]:List SV)=[]))∧(((wasSp g s l ei).1)=((wasSp g s l ei).1)∧((wasSp g s l ei).2)=((wasSp g s l ei).2)∧(([]:List SV)=[]))∧(d8.1=d11.1)∧True))∧q8 d11)))) ∧
          ((decide (d8.2≤(64:Int)))=false →
           ((((wasErr g s l ei)==(0:Int))=true →
            (True)∧(((((wasSp g s l ei).1)==((endsM d8.1).1))&&(((wasSp g s l ei).2)==((endsM d8.1).2)))=true→True)∧((((((wasSp g s l ei).1)==((endsM d8.1).1))&&(((wasSp g s l ei).2)==((endsM d8.1).2)))&&true)=true∧(True))) ∧
           (((wasErr g s l ei)==(0:Int))=false →
            (false=true→True)∧((false&&true)=true∧(True)))))) d80))) ∧
      ((((bookErr g s l) != (0:Int))||((bookAt g s l) != (0:Int)))=false →
       (True)∧((!((((bookSp g s l).1)==((endsM m5).1))&&(((bookSp g s l).2)==((endsM m5).2))))=true →
        (false=true∧(True))) ∧
       ((!((((bookSp g s l).1)==((endsM m5).1))&&(((bookSp g s l).2)==((endsM m5).2))))=false →
        (I64 ((lI l)-(1:Int)))∧(True)∧((!(inI ei (0:Int) ((lI l)-(1:Int))))=true →
         ((((wasErr g s l ei)==(7:Int))&&((((wasSp g s l ei).1)==(0:Int))&&(((wasSp g s l ei).2)==(0:Int))))=true→True)∧(((((wasErr g s l ei)==(7:Int))&&((((wasSp g s l ei).1)==(0:Int))&&(((wasSp g s l ei).2)==(0:Int))))&&true)=true∧(True))) ∧
        ((!(inI ei (0:Int) ((lI l)-(1:Int))))=false →
         ∃ (e14:Unit) (d140:(List (Int×Bool))×Int),((ei=ei∧True∧True∧(wasErr g s l ei)=(wasErr g s l ei)∧True∧(0:Int)=d140.2∧True)∧((g=g∧s=s∧l=l∧(([]:List SV)=[]))∧(((wasSp g s l ei).1)=((wasSp g s l ei).1)∧((wasSp g s l ei).2)=((wasSp g s l ei).2)∧(([]:List SV)=[]))∧(([]:List (Int×Bool))=d140.1)∧True)) ∧
         LoopP (fun (d14:(List (Int×Bool))×Int) (q14:((List (Int×Bool))×Int)→Prop) =>
          ((decide (d14.2≤(64:Int)))=true →
           (bookOk g s l∧-1≤ei∧-1000000000≤d14.2∧d14.2≤1000000000)∧(∀ m15:List (Int×Bool),(lefP g s l ei d14.2 m15)→((decide ((lefW g s l ei d14.2)<(0:Int)))=true →
            (I64 (d14.2+(1:Int)))∧(∃ d16:(List (Int×Bool))×Int,((ei=ei∧True∧True∧(wasErr g s l ei)=(wasErr g s l ei)∧True∧(d14.2+(1:Int))=d16.2∧True)∧((g=g∧s=s∧l=l∧(([]:List SV)=[]))∧(((wasSp g s l ei).1)=((wasSp g s l ei).1)∧((wasSp g s l ei).2)=((wasSp g s l ei).2)∧(([]:List SV)=[]))∧((aput (.i .i64) d14.1 d14.2 true)=d16.1)∧True))∧q14 d16)) ∧
           ((decide ((lefW g s l ei d14.2)<(0:Int)))=false →
            (I64 (d14.2+(1:Int)))∧(∃ d17:(List (Int×Bool))×Int,((ei=ei∧True∧True∧(wasErr g s l ei)=(wasErr g s l ei)∧True∧(d14.2+(1:Int))=d17.2∧True)∧((g=g∧s=s∧l=l∧(([]:List SV)=[]))∧(((wasSp g s l ei).1)=((wasSp g s l ei).1)∧((wasSp g s l ei).2)=((wasSp g s l ei).2)∧(([]:List SV)=[]))∧(d14.1=d17.1)∧True))∧q14 d17)))) ∧
          ((decide (d14.2≤(64:Int)))=false →
           ((((wasErr g s l ei)==(0:Int))=true →
            (True)∧(((((wasSp g s l ei).1)==((endsM d14.1).1))&&(((wasSp g s l ei).2)==((endsM d14.1).2)))=true→True)∧((((((wasSp g s l ei).1)==((endsM d14.1).1))&&(((wasSp g s l ei).2)==((endsM d14.1).2)))&&true)=true∧(True))) ∧
           (((wasErr g s l ei)==(0:Int))=false →
            (false=true→True)∧((false&&true)=true∧(True)))))) d140))))))))) d30)
def cx_law09_ShadeBooks:Cx:=⟨[(1000172,(.pair (.i .i64) .bo))],[(29,s_ref09_Entries),(30,s_law09_Ledger_small),(13,s_law09_known),(31,s_law09_entries),(32,s_shade_Book),(33,s_shade_Was),(20,s_ref09_In)],204,[],0,[(34,x_ref09_Left),(35,x_ref09_Ends)],[],[],[],false,[],[],[149,195],[(35,0)]⟩
def lp_law09_ShadeBooks (g:Int) (s:Int) (l:List (Int×Int)) (ei:Int):List (Nat×LoopAnn):=[(0,⟨Unit,Int,[1,2,5,6,7,8,9,10,11,12],fun e x=>[.val (.i .i64) ei,.box 2 0,.val (.i .i64) (entErr g s l),.lst 42,.box 7 0,.val (.i .i64) (bookAt g s l),.val (.i .i64) (bookErr g s l),.box 10 0,.val (.i .i64) (wasErr g s l ei),.val (.i .i64) x],fun e x=>[(2,.slot 2,.cells [.val (.i .i64) g,.val (.i .i64) s,.val (.list (.pair (.i .i64) (.i .i64))) l] (some 55)),(42,.slot 6,.lst 66 (.pair (.i .i64) (.i .i64)) l false),(7,.slot 7,.cells [.val (.i .i64) ((bookSp g s l).1),.val (.i .i64) ((bookSp g s l).2)] (some 59)),(10,.slot 10,.cells [.val (.i .i64) ((wasSp g s l ei).1),.val (.i .i64) ((wasSp g s l ei).2)] (some 59))]⟩),
 (2,⟨Unit,(List (Int×Bool))×Int,[1,2,10,11,15,16],fun e x=>[.val (.i .i64) ei,.box 2 0,.box 10 0,.val (.i .i64) (wasErr g s l ei),.map 172,.val (.i .i64) x.2],fun e x=>[(2,.slot 2,.cells [.val (.i .i64) g,.val (.i .i64) s,.val (.list (.pair (.i .i64) (.i .i64))) l] (some 55)),(10,.slot 10,.cells [.val (.i .i64) ((wasSp g s l ei).1),.val (.i .i64) ((wasSp g s l ei).2)] (some 59)),(172,.slot 15,.map (.i .i64) .bo x.1)]⟩)]
set_option maxRecDepth 100000 in
theorem vq_law09_ShadeBooks (d:(Int×Int×List (Int×Int))×Int):gwp (cx_law09_ShadeBooks) (lp_law09_ShadeBooks d.1.1 d.1.2.1 d.1.2.2 d.2) c6 0 (gend [.tmp 4] (res_law09_ShadeBooks d) (obs_law09_ShadeBooks d)) (gstart 204 (AL.can al_law09_ShadeBooks d))=vc_law09_ShadeBooks d.1.1 d.1.2.1 d.1.2.2 d.2:=by kernel_rfl
abbrev Ok_law09_ShadeBooks:Prop:=OkC Tryz.prog 6 s_law09_ShadeBooks
theorem mk_law09_ShadeBooks (h:∀ (g:Int) (s:Int) (l:List (Int×Int)) (ei:Int),(l.length≤9223372036854775807)→vc_law09_ShadeBooks g s l ei):OkC Tryz.prog 6 s_law09_ShadeBooks :=
 okC_vc fun6 mixed (C:=cx_law09_ShadeBooks) (V:=fun (d:(Int×Int×List (Int×Int))×Int)=>vc_law09_ShadeBooks d.1.1 d.1.2.1 d.1.2.2 d.2) ⟨(.cons ok_ref09_Entries (.cons ok_law09_Ledger_small (.cons ok_law09_known (.cons ok_law09_entries (.cons ok_shade_Book (.cons ok_shade_Was (.cons ok_ref09_In .nil))))))),(XsOk.cons okx_ref09_Left (XsOk.cons okx_ref09_Ends.1 XsOk.nil)),ItsOk.nil,YlOk.nil,IysOk.nil,(XfOk.cons rfl okx_ref09_Ends.2 XfOk.nil)⟩ (vq_law09_ShadeBooks) fun d hp=>h d.1.1 d.1.2.1 d.1.2.2 d.2 hp
end Go.Proofs.Tryz
set_option linter.unusedVariables false
namespace Go.Proofs.Tryz
open Go Go.V Go.Proofs
theorem ok_law09_ShadeBooks:Ok_law09_ShadeBooks:=mk_law09_ShadeBooks fun g s l ei h=>by
 unfold vc_law09_ShadeBooks;(try delta lI gD sT I64)
 refine⟨h,fun _ _=>h,fun _=>(by and_intros<;>first|rfl|trivial|simp),fun c=>?_⟩
 have hlen:¬ ((l.length:Int) > 50):=fun hh=>by simp[hh] at c
 have hsm:entErr g s l=0→smallB g s l=true:=fun hh=>by
  cases h2:smallB g s l with
  |true=>rfl
  |false=>simp[hh,h2] at c
 clear c;refine⟨by omega,by omega,by omega,(),0,(by and_intros<;>first|rfl|trivial|simp),?_⟩
 refine LoopP.count l.length (fun _=>True) trivial ?_;rintro k hk-q hq;refine⟨fun hkl=>?_,fun _=>?_⟩
 ·have hkl:k<l.length:=by simp at hkl;omega
  refine⟨by omega,by omega,by omega,by omega,fun c2=>by simp at c2,fun _=>⟨by simp only[InK_i64];omega,(k:Int)+1,(by and_intros<;>first|rfl|trivial|simp),hq hkl trivial⟩⟩
 clear hq hk;rcases Decidable.em (entErr g s l≠0) with he|he
 ·have e1:bookErr g s l=entErr g s l:=by unfold bookErr;rw[if_pos he]
  have e2:wasErr g s l ei=entErr g s l:=by unfold wasErr;rw[if_pos (by rw[e1];exact he),e1]
  have e3:bookAt g s l=0:=by unfold bookAt;rw[if_neg (fun h=>he h.1)]
  have e4:bookSp g s l=(0,0):=by unfold bookSp;rw[if_neg (by rw[e1];exact he)]
  have e5:wasSp g s l ei=(0,0):=by unfold wasSp;rw[if_neg (by rw[e2];exact he)]
  rw[e1,e2,e3,e4,e5];exact⟨fun _=>by simp,fun hh=>by simp[he] at hh⟩
 have he:entErr g s l=0:=by omega
 refine⟨fun hh=>by simp[he] at hh,fun _=>?_⟩
 have hb:=entErr_zero he;have hs0:=hb.2.2.1;have hl:=hb.2.2.2.2.1;refine⟨⟨hb,by omega,by omega,by omega⟩,fun m hm=>?_⟩
 have hw:=lef_wrong (t:=0) hb;rw[hw];by_cases hwr:wrongI g s l≥0
 ·have e1:bookErr g s l=90:=by unfold bookErr;rw[if_neg (by omega),if_pos hwr]
  have e2:wasErr g s l ei=90:=by unfold wasErr;rw[if_pos (by omega),e1]
  have e3:bookAt g s l=wrongI g s l:=by unfold bookAt;rw[if_pos ⟨he,hwr⟩]
  have e4:bookSp g s l=(0,0):=by unfold bookSp;rw[if_neg (by omega)]
  have e5:wasSp g s l ei=(0,0):=by unfold wasSp;rw[if_neg (by omega)]
  rw[e1,e2,e3,e4,e5];exact⟨fun _=>by simp,fun hh=>by simp at hh;omega⟩
 have hwr':wrongI g s l<0:=by omega
 refine⟨fun hh=>by simp at hh;omega,fun _=>?_⟩
 have e1:bookErr g s l=0:=by unfold bookErr;rw[if_neg (by omega),if_neg hwr]
 have e3:bookAt g s l=0:=by unfold bookAt;rw[if_neg (fun h=>hwr h.2)]
 have e4:bookSp g s l=stB g s l l.length:=by unfold bookSp;rw[if_pos e1]
 have hne:=lefW_none.1 (show lefW g s l (-1) 0<0 by rw[hw];exact hwr')
 have hlb:=lef_bd (e:=-1) (t:=0) hb l.length (Nat.le_refl _) fun j hj=>hne j hj;have hlk:=lef_book (t:=0) hb l.length (Nat.le_refl _) fun j hj=>hne j (by omega)
 have hm:=hm (by rw[hw];exact hwr')
 rw[hlk] at hm hlb;have hends:endsM m=stB g s l l.length:=by
  have a1:=hlb.2 _ ⟨Int.le_refl _,hlb.1⟩;have a2:=hlb.2 _ ⟨hlb.1,Int.le_refl _⟩;exact ends_span hm hlb.1 (by omega) (by omega)
 simp only[and_true,true_and];refine⟨fun hh=>by simp[e1,e3] at hh,fun _=>⟨fun hh=>by simp[e4,hends] at hh,fun _=>?_⟩⟩
 refine⟨by simp only[InK_i64];omega,fun hh=>?_,fun hh=>?_⟩
 ·have e2:wasErr g s l ei=7:=by unfold wasErr;rw[if_neg (by omega),if_pos hh]
  have e5:wasSp g s l ei=(0,0):=by unfold wasSp;rw[if_neg (by omega)]
  rw[e2,e5];simp
 have hei:0≤ei∧ei≤(l.length:Int)-1:=by simpa [inI] using hh
 have e2:wasErr g s l ei=0:=by unfold wasErr;rw[if_neg (by omega),hh];rfl
 have e5:wasSp g s l ei=wasK g s l ei.toNat:=by unfold wasSp;rw[if_pos e2]
 obtain⟨w,hT⟩:=truth_ex hb hwr';have hel:ei.toNat<l.length:=by omega
 have hec:((ei.toNat:Nat):Int)=ei:=by omega
 have hre:∀ t,lefW g s l ei t<0↔InB (wasK g s l ei.toNat) t:=fun t=>by
  rw[lef_thr,←(reach hb hT hel (t:=t)).1,hec]
 have hbd:=wasK_bd (g:=g) (s:=s) (l:=l) (k:=ei.toNat);have hin:=truth_was hT hel;have h64:(wasK g s l ei.toNat).2≤64:=by
  have h1:=hsm he;unfold smallB at h1;simp only[Bool.and_eq_true,Bool.not_eq_true',List.any_eq_false,decide_eq_true_eq] at h1;have h2:=h1.1 _ (List.getElem_mem hel);rw[getD_nat hel] at hbd;omega
 refine⟨(),([],0),(by and_intros<;>first|rfl|trivial|simp),?_⟩
 refine LoopP.count2 65 (fun k M=>∀ n,keyM M n↔(0≤n∧n<(k:Int)∧lefW g s l ei n<0)) (fun n=>?_) ?_
 ·unfold keyM;simp;omega
 rintro k M hk hM q hq;dsimp only;refine⟨fun hkl=>?_,fun hkl=>?_⟩
 ·have hkl:k≤64:=by simp at hkl;omega
  refine⟨⟨hb,by omega,by omega,by omega⟩,fun m9 _=>⟨fun c=>?_,fun c=>?_⟩⟩
  ·have c:lefW g s l ei k<0:=by simpa using c
   refine⟨by simp only[InK_i64];omega,(aput (.i .i64) M (k:Int) true,(k:Int)+1),(by and_intros<;>first|rfl|trivial|simp),hq _ (by omega) fun n=>?_⟩
   rw[keyM_aput,hM];constructor
   ·rintro (h|rfl)
    ·exact⟨h.1,by omega,h.2.2⟩
    ·exact⟨by omega,by omega,c⟩
   ·rintro⟨h1,h2,h3⟩;by_cases e:n=k
    ·exact .inr e
    ·exact .inl ⟨h1,by omega,h3⟩
  ·have c:¬ lefW g s l ei k<0:=by simpa using c
   refine⟨by simp only[InK_i64];omega,(M,(k:Int)+1),(by and_intros<;>first|rfl|trivial|simp),hq _ (by omega) fun n=>?_⟩
   rw[hM];constructor
   ·exact fun h=>⟨h.1,by omega,h.2.2⟩
   ·rintro⟨h1,h2,h3⟩;by_cases e:n=k
    ·subst e;exact(c h3).elim
    ·exact⟨h1,by omega,h3⟩
 ·have hk65:k=65:=by simp at hkl;omega
  subst hk65;have hE:endsM M=wasK g s l ei.toNat:=ends_span (fun n=>by
   rw[hM,hre];constructor
   ·exact fun h=>h.2.2
   ·intro h;have:=h.1;have:=h.2;exact⟨by omega,by omega,h⟩) (Int.le_trans hin.1 hin.2) hbd.1 (by omega)
  rw[e2,e5,hE];simp
end Go.Proofs.Tryz