/- A framework for walks, contracts of functions, and their proofs: part 6. -/
import Derived.Test.YtmmimffgljppkaaGreatDoorR5
set_option linter.unusedVariables false
namespace Go.Proofs.Tryz
open Go Go.V Go.Proofs
def al_shade_isLot:AL (Int × Int × Int × Int):=(.one (.agg (.cons (.k (.i .i64)) (.cons (.k (.i .i64)) (.cons (.k (.i .i64)) (.one (.k (.i .i64))))))))
def pre_shade_isLot (d:Int × Int × Int × Int):Prop:=True
def res_shade_isLot (d:Int × Int × Int × Int):SV:=.val .bo (lotOk (d.1,(d.2.1,d.2.2.1),d.2.2.2))
def obs_shade_isLot (d:Int × Int × Int × Int):List OB:=[]
def s_shade_isLot:CSp:=mkSp al_shade_isLot pre_shade_isLot res_shade_isLot obs_shade_isLot
def vc_shade_isLot (lc:Int) (lo:Int) (hi:Int) (lg:Int):Prop :=
 ([lc].length ≤ 1000000)∧((!([lc].any fun n=>decide (n < (0:Int)) || decide ((9:Int) < n)))=true→True)∧((!([lc].any fun n=>decide (n < (0:Int)) || decide ((9:Int) < n)))=true→[lo,hi].length ≤ 1000000)∧((((!([lc].any fun n=>decide (n < (0:Int)) || decide ((9:Int) < n))) && (!([lo,hi].any fun n=>decide (n < (0:Int)) || decide ((1000:Int) < n)))) && (decide (lo ≤ hi)))=true→True)∧((((!([lc].any fun n=>decide (n < (0:Int)) || decide ((9:Int) < n))) && (!([lo,hi].any fun n=>decide (n < (0:Int)) || decide ((1000:Int) < n)))) && (decide (lo ≤ hi)))=true→[lg].length ≤ 1000000)∧(((((!([lc].any fun n=>decide (n < (0:Int)) || decide ((9:Int) < n))) && (!([lo,hi].any fun n=>decide (n < (0:Int)) || decide ((1000:Int) < n)))) && (decide (lo ≤ hi))) && (!([lg].any fun n=>decide (n < (1:Int)) || decide ((1000000:Int) < n))))=(lotOk (lc,(lo,hi),lg))∧(True))
def cx_shade_isLot:Cx:=⟨[(3,(.i .i64))],[(33,s_shade_within)],32,[],0,[],[],[],[],false,[],[],[]⟩
def lp_shade_isLot (lc:Int) (lo:Int) (hi:Int) (lg:Int):List (Nat × LoopAnn):=[]
set_option maxRecDepth 100000 in
theorem vq_shade_isLot (d:Int × Int × Int × Int):gwp (cx_shade_isLot) (lp_shade_isLot d.1 d.2.1 d.2.2.1 d.2.2.2) c32 0 (gend [.tmp 2] (res_shade_isLot d) (obs_shade_isLot d)) (gstart 32 (AL.can al_shade_isLot d))=vc_shade_isLot d.1 d.2.1 d.2.2.1 d.2.2.2:=by kernel_rfl
abbrev Ok_shade_isLot:Prop:=OkC Tryz.prog 32 s_shade_isLot
theorem mk_shade_isLot (h:∀ (lc:Int) (lo:Int) (hi:Int) (lg:Int),(True)→vc_shade_isLot lc lo hi lg):OkC Tryz.prog 32 s_shade_isLot :=
 okC_vc fun32 mixed (C:=cx_shade_isLot) (V:=fun (d:Int × Int × Int × Int)=>vc_shade_isLot d.1 d.2.1 d.2.2.1 d.2.2.2) ⟨(.cons ok_shade_within .nil),XsOk.nil,ItsOk.nil,YlOk.nil,IysOk.nil⟩ (vq_shade_isLot) fun d hp=>h d.1 d.2.1 d.2.2.1 d.2.2.2 hp
theorem ok_shade_isLot:Ok_shade_isLot:=mk_shade_isLot fun lc lo hi lg _=>by
 unfold vc_shade_isLot; (try delta lI gD sT I64)
 have e:∀ n a b:Int,(decide (n < a) || decide (b < n))=!inI n a b:=fun n a b=>(nI n a b).symm
 simp only [List.any_cons,List.any_nil,Bool.or_false,e,Bool.not_not,List.length_cons,List.length_nil,Bool.not_or]
 refine ⟨by omega,fun _=>trivial,fun _=>by omega,fun _=>trivial,fun _=>by omega,?_⟩
 and_intros <;> first | rfl | trivial
def al_shade_Check_1:AL (Int × Int × Int × Int):=(.one (.agg (.cons (.k (.i .i64)) (.cons (.k (.i .i64)) (.cons (.k (.i .i64)) (.one (.k (.i .i64))))))))
def pre_shade_Check_1 (d:Int × Int × Int × Int):Prop:=True
def res_shade_Check_1 (d:Int × Int × Int × Int):SV:=.val .bo (!lotOk (d.1,(d.2.1,d.2.2.1),d.2.2.2))
def obs_shade_Check_1 (d:Int × Int × Int × Int):List OB:=[]
def s_shade_Check_1:CSp:=mkSp al_shade_Check_1 pre_shade_Check_1 res_shade_Check_1 obs_shade_Check_1
def vc_shade_Check_1 (lc:Int) (lo:Int) (hi:Int) (lg:Int):Prop :=
 (True)∧((!(lotOk (lc,(lo,hi),lg)))=(!lotOk (lc,(lo,hi),lg))∧(True))
def cx_shade_Check_1:Cx:=⟨[],[(32,s_shade_isLot)],6,[],0,[],[],[],[],false,[],[],[]⟩
def lp_shade_Check_1 (lc:Int) (lo:Int) (hi:Int) (lg:Int):List (Nat × LoopAnn):=[]
set_option maxRecDepth 100000 in
theorem vq_shade_Check_1 (d:Int × Int × Int × Int):gwp (cx_shade_Check_1) (lp_shade_Check_1 d.1 d.2.1 d.2.2.1 d.2.2.2) c31 0 (gend [.tmp 2] (res_shade_Check_1 d) (obs_shade_Check_1 d)) (gstart 6 (AL.can al_shade_Check_1 d))=vc_shade_Check_1 d.1 d.2.1 d.2.2.1 d.2.2.2:=by kernel_rfl
abbrev Ok_shade_Check_1:Prop:=OkC Tryz.prog 31 s_shade_Check_1
theorem mk_shade_Check_1 (h:∀ (lc:Int) (lo:Int) (hi:Int) (lg:Int),(True)→vc_shade_Check_1 lc lo hi lg):OkC Tryz.prog 31 s_shade_Check_1 :=
 okC_vc fun31 mixed (C:=cx_shade_Check_1) (V:=fun (d:Int × Int × Int × Int)=>vc_shade_Check_1 d.1 d.2.1 d.2.2.1 d.2.2.2) ⟨(.cons ok_shade_isLot .nil),XsOk.nil,ItsOk.nil,YlOk.nil,IysOk.nil⟩ (vq_shade_Check_1) fun d hp=>h d.1 d.2.1 d.2.2.1 d.2.2.2 hp
theorem ok_shade_Check_1:Ok_shade_Check_1:=mk_shade_Check_1 fun lc lo hi lg _=>by
 unfold vc_shade_Check_1; (try delta lI gD sT I64)
 and_intros <;> first | rfl | trivial
def al_slices_IndexFunc_api_ShadeLot_api_ShadeLot:AL ((List (Int × (Int × Int) × Int)) × ((Int × (Int × Int) × Int→Prop) × (Int × (Int × Int) × Int→Bool))):=(.cons (.k (.list (.pair (.i .i64) (.pair (.pair (.i .i64) (.i .i64)) (.i .i64))))) (.one (.fn [(.pair (.i .i64) (.pair (.pair (.i .i64) (.i .i64)) (.i .i64)))] .bo)))
def pre_slices_IndexFunc_api_ShadeLot_api_ShadeLot (d:(List (Int × (Int × Int) × Int)) × ((Int × (Int × Int) × Int→Prop) × (Int × (Int × Int) × Int→Bool))):Prop:=d.1.length ≤ 1000000∧∀ x ∈ d.1,d.2.1 x
def res_slices_IndexFunc_api_ShadeLot_api_ShadeLot (d:(List (Int × (Int × Int) × Int)) × ((Int × (Int × Int) × Int→Prop) × (Int × (Int × Int) × Int→Bool))):SV:=.val (.i .i64) (idxG d.1 d.2.2)
def obs_slices_IndexFunc_api_ShadeLot_api_ShadeLot (d:(List (Int × (Int × Int) × Int)) × ((Int × (Int × Int) × Int→Prop) × (Int × (Int × Int) × Int→Bool))):List OB:=[]
def s_slices_IndexFunc_api_ShadeLot_api_ShadeLot:CSp:=mkSp al_slices_IndexFunc_api_ShadeLot_api_ShadeLot pre_slices_IndexFunc_api_ShadeLot_api_ShadeLot res_slices_IndexFunc_api_ShadeLot_api_ShadeLot obs_slices_IndexFunc_api_ShadeLot_api_ShadeLot
def vc_slices_IndexFunc_api_ShadeLot_api_ShadeLot (l:List (Int × (Int × Int) × Int)) (p:(Int × (Int × Int) × Int→Prop) × (Int × (Int × Int) × Int→Bool)):Prop :=
 ∃ (e2:Unit) (d20:Int),((l=l∧(SV.pf [(.pair (.i .i64) (.pair (.pair (.i .i64) (.i .i64)) (.i .i64)))] .bo p.1 p.2=SV.pf [(.pair (.i .i64) (.pair (.pair (.i .i64) (.i .i64)) (.i .i64)))] .bo p.1 p.2)∧(lI l)=(lI l)∧(0:Int)=d20∧True)∧(True)) ∧
 LoopP (fun (d2:Int) (q2:(Int)→Prop) =>
  ((decide (d2 < (lI l)))=true →
   (0 ≤ d2)∧(d2 < (List.length l))∧(p.1 ((gD l d2 (0,((0,0),0))).1,(((gD l d2 (0,((0,0),0))).2.1.1,(gD l d2 (0,((0,0),0))).2.1.2),(gD l d2 (0,((0,0),0))).2.2)))∧((p.2 ((gD l d2 (0,((0,0),0))).1,(((gD l d2 (0,((0,0),0))).2.1.1,(gD l d2 (0,((0,0),0))).2.1.2),(gD l d2 (0,((0,0),0))).2.2)))=true →
    (d2=(idxG l p.2)∧(True))) ∧
   ((p.2 ((gD l d2 (0,((0,0),0))).1,(((gD l d2 (0,((0,0),0))).2.1.1,(gD l d2 (0,((0,0),0))).2.1.2),(gD l d2 (0,((0,0),0))).2.2)))=false →
    (I64 (d2 + (1:Int)))∧(∃ d3:Int,((l=l∧(SV.pf [(.pair (.i .i64) (.pair (.pair (.i .i64) (.i .i64)) (.i .i64)))] .bo p.1 p.2=SV.pf [(.pair (.i .i64) (.pair (.pair (.i .i64) (.i .i64)) (.i .i64)))] .bo p.1 p.2)∧(lI l)=(lI l)∧(d2 + (1:Int))=d3∧True)∧(True))∧q2 d3))) ∧
  ((decide (d2 < (lI l)))=false →
   ((-1:Int)=(idxG l p.2)∧(True)))) d20
def cx_slices_IndexFunc_api_ShadeLot_api_ShadeLot:Cx:=⟨[],[],19,[],0,[],[],[],[],false,[],[],[]⟩
def lp_slices_IndexFunc_api_ShadeLot_api_ShadeLot (l:List (Int × (Int × Int) × Int)) (p:(Int × (Int × Int) × Int→Prop) × (Int × (Int × Int) × Int→Bool)):List (Nat × LoopAnn):=[(0,⟨Unit,Int,[0,1,7,8],fun e x=>[.val (.list (.pair (.i .i64) (.pair (.pair (.i .i64) (.i .i64)) (.i .i64)))) l,.pf [(.pair (.i .i64) (.pair (.pair (.i .i64) (.i .i64)) (.i .i64)))] .bo p.1 p.2,.val (.i .i64) (((List.length l):Nat):Int),.val (.i .i64) x],fun e x=>[]⟩)]
set_option maxRecDepth 100000 in
theorem vq_slices_IndexFunc_api_ShadeLot_api_ShadeLot (d:(List (Int × (Int × Int) × Int)) × ((Int × (Int × Int) × Int→Prop) × (Int × (Int × Int) × Int→Bool))):gwp (cx_slices_IndexFunc_api_ShadeLot_api_ShadeLot) (lp_slices_IndexFunc_api_ShadeLot_api_ShadeLot d.1 d.2) c53 0 (gend [.tmp 4] (res_slices_IndexFunc_api_ShadeLot_api_ShadeLot d) (obs_slices_IndexFunc_api_ShadeLot_api_ShadeLot d)) (gstart 19 (AL.can al_slices_IndexFunc_api_ShadeLot_api_ShadeLot d))=vc_slices_IndexFunc_api_ShadeLot_api_ShadeLot d.1 d.2:=by kernel_rfl
abbrev Ok_slices_IndexFunc_api_ShadeLot_api_ShadeLot:Prop:=OkC Tryz.prog 53 s_slices_IndexFunc_api_ShadeLot_api_ShadeLot
theorem mk_slices_IndexFunc_api_ShadeLot_api_ShadeLot (h:∀ (l:List (Int × (Int × Int) × Int)) (p:(Int × (Int × Int) × Int→Prop) × (Int × (Int × Int) × Int→Bool)),(l.length ≤ 1000000∧∀ x ∈ l,p.1 x)→vc_slices_IndexFunc_api_ShadeLot_api_ShadeLot l p):OkC Tryz.prog 53 s_slices_IndexFunc_api_ShadeLot_api_ShadeLot :=
 okC_vc fun53 mixed (C:=cx_slices_IndexFunc_api_ShadeLot_api_ShadeLot) (V:=fun (d:(List (Int × (Int × Int) × Int)) × ((Int × (Int × Int) × Int→Prop) × (Int × (Int × Int) × Int→Bool)))=>vc_slices_IndexFunc_api_ShadeLot_api_ShadeLot d.1 d.2) ⟨.nil,XsOk.nil,ItsOk.nil,YlOk.nil,IysOk.nil⟩ (vq_slices_IndexFunc_api_ShadeLot_api_ShadeLot) fun d hp=>h d.1 d.2 hp
theorem ok_slices_IndexFunc_api_ShadeLot_api_ShadeLot:Ok_slices_IndexFunc_api_ShadeLot_api_ShadeLot:=mk_slices_IndexFunc_api_ShadeLot_api_ShadeLot fun l p hp=>by
 unfold vc_slices_IndexFunc_api_ShadeLot_api_ShadeLot; (try delta lI gD sT I64); simp only [true_and,and_true,eq_self_iff_true,exists_eq_left',exists_const,decide_eq_true_eq,decide_eq_false_iff_not,beq_iff_eq,bne_iff_ne,ne_eq,beq_eq_false_iff_ne,bne_eq_false_iff_eq,Bool.not_eq_true',Bool.not_eq_false',Bool.not_eq_true,Bool.not_eq_false,Int.toNat_natCast,Int.ofNat_lt,gt_iff_lt,ge_iff_le]
 refine LoopP.count l.length (fun k=>(l.take k).any p.2=false) (by simp) fun k hk1 hJ q hq=>?_
 simp only [true_and,and_true,eq_self_iff_true,exists_eq_left',exists_const,decide_eq_true_eq,decide_eq_false_iff_not,beq_iff_eq,bne_iff_ne,ne_eq,beq_eq_false_iff_ne,bne_eq_false_iff_eq,Bool.not_eq_true',Bool.not_eq_false',Bool.not_eq_true,Bool.not_eq_false,Int.toNat_natCast,Int.ofNat_lt,gt_iff_lt,ge_iff_le,InK_i64]
 refine ⟨fun hlt=>?_,fun hge=>?_⟩
 ·have hlt:k < l.length:=by omega
  rw [getD_nat hlt]
  refine ⟨by omega,by omega,hp.2 _ (List.getElem_mem hlt),fun hx=>?_,fun hx=>⟨by omega,hq hlt ?_⟩⟩
  ·rw [idxG_some hlt hx hJ]
  ·rw [take_succ_eq hlt,List.any_append,hJ]; simp [hx]
 ·rw [List.take_of_length_le (by omega)] at hJ
  rw [idxG_none hJ]
def al_slices_ContainsFunc_api_ShadeLot_api_ShadeLot:AL ((List (Int × (Int × Int) × Int)) × ((Int × (Int × Int) × Int→Prop) × (Int × (Int × Int) × Int→Bool))):=(.cons (.k (.list (.pair (.i .i64) (.pair (.pair (.i .i64) (.i .i64)) (.i .i64))))) (.one (.fn [(.pair (.i .i64) (.pair (.pair (.i .i64) (.i .i64)) (.i .i64)))] .bo)))
def pre_slices_ContainsFunc_api_ShadeLot_api_ShadeLot (d:(List (Int × (Int × Int) × Int)) × ((Int × (Int × Int) × Int→Prop) × (Int × (Int × Int) × Int→Bool))):Prop:=d.1.length ≤ 1000000∧∀ x ∈ d.1,d.2.1 x
def res_slices_ContainsFunc_api_ShadeLot_api_ShadeLot (d:(List (Int × (Int × Int) × Int)) × ((Int × (Int × Int) × Int→Prop) × (Int × (Int × Int) × Int→Bool))):SV:=.val .bo (d.1.any d.2.2)
def obs_slices_ContainsFunc_api_ShadeLot_api_ShadeLot (d:(List (Int × (Int × Int) × Int)) × ((Int × (Int × Int) × Int→Prop) × (Int × (Int × Int) × Int→Bool))):List OB:=[]
def s_slices_ContainsFunc_api_ShadeLot_api_ShadeLot:CSp:=mkSp al_slices_ContainsFunc_api_ShadeLot_api_ShadeLot pre_slices_ContainsFunc_api_ShadeLot_api_ShadeLot res_slices_ContainsFunc_api_ShadeLot_api_ShadeLot obs_slices_ContainsFunc_api_ShadeLot_api_ShadeLot
def vc_slices_ContainsFunc_api_ShadeLot_api_ShadeLot (l:List (Int × (Int × Int) × Int)) (p:(Int × (Int × Int) × Int→Prop) × (Int × (Int × Int) × Int→Bool)):Prop :=
 (l.length ≤ 1000000∧∀ x ∈ l,(fun (x1:Int × (Int × Int) × Int)=>p.1 (x1.1,((x1.2.1.1,x1.2.1.2),x1.2.2))) x)∧((decide ((idxG l (fun (x1:Int × (Int × Int) × Int)=>(p.2 (x1.1,((x1.2.1.1,x1.2.1.2),x1.2.2))))) ≥ (0:Int)))=(l.any p.2)∧(True))
def cx_slices_ContainsFunc_api_ShadeLot_api_ShadeLot:Cx:=⟨[],[(53,s_slices_IndexFunc_api_ShadeLot_api_ShadeLot)],9,[],0,[],[],[],[],false,[],[],[]⟩
def lp_slices_ContainsFunc_api_ShadeLot_api_ShadeLot (l:List (Int × (Int × Int) × Int)) (p:(Int × (Int × Int) × Int→Prop) × (Int × (Int × Int) × Int→Bool)):List (Nat × LoopAnn):=[]
set_option maxRecDepth 100000 in
theorem vq_slices_ContainsFunc_api_ShadeLot_api_ShadeLot (d:(List (Int × (Int × Int) × Int)) × ((Int × (Int × Int) × Int→Prop) × (Int × (Int × Int) × Int→Bool))):gwp (cx_slices_ContainsFunc_api_ShadeLot_api_ShadeLot) (lp_slices_ContainsFunc_api_ShadeLot_api_ShadeLot d.1 d.2) c30 0 (gend [.tmp 4] (res_slices_ContainsFunc_api_ShadeLot_api_ShadeLot d) (obs_slices_ContainsFunc_api_ShadeLot_api_ShadeLot d)) (gstart 9 (AL.can al_slices_ContainsFunc_api_ShadeLot_api_ShadeLot d))=vc_slices_ContainsFunc_api_ShadeLot_api_ShadeLot d.1 d.2:=by kernel_rfl
abbrev Ok_slices_ContainsFunc_api_ShadeLot_api_ShadeLot:Prop:=OkC Tryz.prog 30 s_slices_ContainsFunc_api_ShadeLot_api_ShadeLot
theorem mk_slices_ContainsFunc_api_ShadeLot_api_ShadeLot (h:∀ (l:List (Int × (Int × Int) × Int)) (p:(Int × (Int × Int) × Int→Prop) × (Int × (Int × Int) × Int→Bool)),(l.length ≤ 1000000∧∀ x ∈ l,p.1 x)→vc_slices_ContainsFunc_api_ShadeLot_api_ShadeLot l p):OkC Tryz.prog 30 s_slices_ContainsFunc_api_ShadeLot_api_ShadeLot :=
 okC_vc fun30 mixed (C:=cx_slices_ContainsFunc_api_ShadeLot_api_ShadeLot) (V:=fun (d:(List (Int × (Int × Int) × Int)) × ((Int × (Int × Int) × Int→Prop) × (Int × (Int × Int) × Int→Bool)))=>vc_slices_ContainsFunc_api_ShadeLot_api_ShadeLot d.1 d.2) ⟨(.cons ok_slices_IndexFunc_api_ShadeLot_api_ShadeLot .nil),XsOk.nil,ItsOk.nil,YlOk.nil,IysOk.nil⟩ (vq_slices_ContainsFunc_api_ShadeLot_api_ShadeLot) fun d hp=>h d.1 d.2 hp
theorem ok_slices_ContainsFunc_api_ShadeLot_api_ShadeLot:Ok_slices_ContainsFunc_api_ShadeLot_api_ShadeLot:=mk_slices_ContainsFunc_api_ShadeLot_api_ShadeLot fun l p hp=>by
 simp only [vc_slices_ContainsFunc_api_ShadeLot_api_ShadeLot]
 exact ⟨hp,idxG_any l p.2,trivial⟩
def al_shade_Check:AL (List (Int × (Int × Int) × Int)):=(.one (.k (.list (.pair (.i .i64) (.pair (.pair (.i .i64) (.i .i64)) (.i .i64))))))
def pre_shade_Check (d:List (Int × (Int × Int) × Int)):Prop:=d.length ≤ 1000
def res_shade_Check (d:List (Int × (Int × Int) × Int)):SV:=.val (.i .i64) (lotsErr d)
def obs_shade_Check (d:List (Int × (Int × Int) × Int)):List OB:=[]
def s_shade_Check:CSp:=mkSp al_shade_Check pre_shade_Check res_shade_Check obs_shade_Check
def vc_shade_Check (l:List (Int × (Int × Int) × Int)):Prop :=
 ((decide ((lI l) > (12:Int)))=true →
  ((5:Int)=(lotsErr l)∧(True))) ∧
 ((decide ((lI l) > (12:Int)))=false →
  (l.length ≤ 1000000∧∀ x ∈ l,(fun (x1:Int × (Int × Int) × Int)=>True) x)∧((l.any (fun (x1:Int × (Int × Int) × Int)=>(!lotOk (x1.1,(x1.2.1.1,x1.2.1.2),x1.2.2))))=true →
   ((2:Int)=(lotsErr l)∧(True))) ∧
  ((l.any (fun (x1:Int × (Int × Int) × Int)=>(!lotOk (x1.1,(x1.2.1.1,x1.2.1.2),x1.2.2))))=false →
   ((0:Int)=(lotsErr l)∧(True))))
def cx_shade_Check:Cx:=⟨[],[(30,s_slices_ContainsFunc_api_ShadeLot_api_ShadeLot),(31,s_shade_Check_1)],10,[],0,[],[],[],[],false,[],[],[]⟩
def lp_shade_Check (l:List (Int × (Int × Int) × Int)):List (Nat × LoopAnn):=[]
set_option maxRecDepth 100000 in
theorem vq_shade_Check (d:List (Int × (Int × Int) × Int)):gwp (cx_shade_Check) (lp_shade_Check d) c9 0 (gend [.tmp 2] (res_shade_Check d) (obs_shade_Check d)) (gstart 10 (AL.can al_shade_Check d))=vc_shade_Check d:=by kernel_rfl
abbrev Ok_shade_Check:Prop:=OkC Tryz.prog 9 s_shade_Check
theorem mk_shade_Check (h:∀ (l:List (Int × (Int × Int) × Int)),(l.length ≤ 1000)→vc_shade_Check l):OkC Tryz.prog 9 s_shade_Check :=
 okC_vc fun9 mixed (C:=cx_shade_Check) (V:=fun (d:List (Int × (Int × Int) × Int))=>vc_shade_Check d) ⟨(.cons ok_slices_ContainsFunc_api_ShadeLot_api_ShadeLot (.cons ok_shade_Check_1 .nil)),XsOk.nil,ItsOk.nil,YlOk.nil,IysOk.nil⟩ (vq_shade_Check) fun d hp=>h d hp
theorem ok_shade_Check:Ok_shade_Check:=mk_shade_Check fun l hl=>by
 unfold vc_shade_Check; (try delta lI gD sT I64)
 (try simp only [decide_eq_true_eq,decide_eq_false_iff_not])
 refine ⟨fun h1=>⟨?_,trivial⟩,fun h1=>⟨⟨by omega,fun _ _=>trivial⟩,fun h2=>⟨?_,trivial⟩,fun h2=>⟨?_,trivial⟩⟩⟩
 ·unfold lotsErr; rw [if_pos (by omega)]
 ·unfold lotsErr; rw [if_neg (by omega),if_pos h2]
 ·unfold lotsErr; rw [if_neg (by omega),if_neg (by rw [show (l.any fun x=>!lotOk x)=false from h2]; decide)]
def al_law09_own:AL (List (Int × (Int × Int) × Int)):=(.one (.k (.list (.pair (.i .i64) (.pair (.pair (.i .i64) (.i .i64)) (.i .i64))))))
def pre_law09_own (d:List (Int × (Int × Int) × Int)):Prop:=d.length ≤ 1000
def res_law09_own (d:List (Int × (Int × Int) × Int)):SV:=.lst 0
def obs_law09_own (d:List (Int × (Int × Int) × Int)):List OB:=[.lst 74 (.pair (.i .i64) (.pair (.pair (.i .i64) (.i .i64)) (.i .i64))) d false]
def s_law09_own:CSp:=mkSp al_law09_own pre_law09_own res_law09_own obs_law09_own
def vc_law09_own (l:List (Int × (Int × Int) × Int)):Prop :=
 (((List.length ([]:List (Int × (Int × Int) × Int))) + (List.length l)) * 32 ≤ 70368744177664)∧(True∧(((([]:List (Int × (Int × Int) × Int))++l)=l∧((List.isEmpty l) && false)=false)∧True))
def cx_law09_own:Cx:=⟨[(74,(.pair (.i .i64) (.pair (.pair (.i .i64) (.i .i64)) (.i .i64))))],[],6,[],0,[],[],[],[],false,[],[],[]⟩
def lp_law09_own (l:List (Int × (Int × Int) × Int)):List (Nat × LoopAnn):=[]
set_option maxRecDepth 100000 in
theorem vq_law09_own (d:List (Int × (Int × Int) × Int)):gwp (cx_law09_own) (lp_law09_own d) c7 0 (gend [.tmp 2] (res_law09_own d) (obs_law09_own d)) (gstart 6 (AL.can al_law09_own d))=vc_law09_own d:=by kernel_rfl
abbrev Ok_law09_own:Prop:=OkC Tryz.prog 7 s_law09_own
theorem mk_law09_own (h:∀ (l:List (Int × (Int × Int) × Int)),(l.length ≤ 1000)→vc_law09_own l):OkC Tryz.prog 7 s_law09_own :=
 okC_vc fun7 mixed (C:=cx_law09_own) (V:=fun (d:List (Int × (Int × Int) × Int))=>vc_law09_own d) ⟨.nil,XsOk.nil,ItsOk.nil,YlOk.nil,IysOk.nil⟩ (vq_law09_own) fun d hp=>h d hp
theorem ok_law09_own:Ok_law09_own:=mk_law09_own fun l h=>by
 have h1:l.length * 32 ≤ 70368744177664:=by omega
 simp [vc_law09_own,h1]
def al_law09_ints:AL (List Int):=(.one (.k (.list (.i .i64))))
def pre_law09_ints (d:List Int):Prop:=d.length ≤ 1000
def res_law09_ints (d:List Int):SV:=.lst 0
def obs_law09_ints (d:List Int):List OB:=[.lst 3 (.i .i64) d false]
def s_law09_ints:CSp:=mkSp al_law09_ints pre_law09_ints res_law09_ints obs_law09_ints
def vc_law09_ints (l:List Int):Prop :=
 (((List.length ([]:List Int)) + (List.length l)) * 8 ≤ 70368744177664)∧(True∧(((([]:List Int)++l)=l∧((List.isEmpty l) && false)=false)∧True))
def cx_law09_ints:Cx:=⟨[(3,(.i .i64))],[],6,[],0,[],[],[],[],false,[],[],[]⟩
def lp_law09_ints (l:List Int):List (Nat × LoopAnn):=[]
set_option maxRecDepth 100000 in
theorem vq_law09_ints (d:List Int):gwp (cx_law09_ints) (lp_law09_ints d) c8 0 (gend [.tmp 2] (res_law09_ints d) (obs_law09_ints d)) (gstart 6 (AL.can al_law09_ints d))=vc_law09_ints d:=by kernel_rfl
abbrev Ok_law09_ints:Prop:=OkC Tryz.prog 8 s_law09_ints
theorem mk_law09_ints (h:∀ (l:List Int),(l.length ≤ 1000)→vc_law09_ints l):OkC Tryz.prog 8 s_law09_ints :=
 okC_vc fun8 mixed (C:=cx_law09_ints) (V:=fun (d:List Int)=>vc_law09_ints d) ⟨.nil,XsOk.nil,ItsOk.nil,YlOk.nil,IysOk.nil⟩ (vq_law09_ints) fun d hp=>h d hp
theorem ok_law09_ints:Ok_law09_ints:=mk_law09_ints fun l h=>by
 have h1:l.length * 8 ≤ 70368744177664:=by omega
 simp [vc_law09_ints,h1]
def al_law09_same:AL ((List (Int × (Int × Int) × Int)) × List (Int × (Int × Int) × Int)):=(.cons (.k (.list (.pair (.i .i64) (.pair (.pair (.i .i64) (.i .i64)) (.i .i64))))) (.one (.k (.list (.pair (.i .i64) (.pair (.pair (.i .i64) (.i .i64)) (.i .i64)))))))
def pre_law09_same (d:(List (Int × (Int × Int) × Int)) × List (Int × (Int × Int) × Int)):Prop:=d.1.length ≤ 1000
def res_law09_same (d:(List (Int × (Int × Int) × Int)) × List (Int × (Int × Int) × Int)):SV:=.val .bo (d.1 == d.2)
def obs_law09_same (d:(List (Int × (Int × Int) × Int)) × List (Int × (Int × Int) × Int)):List OB:=[]
def s_law09_same:CSp:=mkSp al_law09_same pre_law09_same res_law09_same obs_law09_same
def vc_law09_same (a:List (Int × (Int × Int) × Int)) (b:List (Int × (Int × Int) × Int)):Prop :=
 (((lI a) != (lI b))=true →
  (false=(a == b)∧(True))) ∧
 (((lI a) != (lI b))=false →
  ∃ (e2:Unit) (d20:Int),((a=a∧b=b∧(0:Int)=d20∧True)∧(True)) ∧
  LoopP (fun (d2:Int) (q2:(Int)→Prop) =>
   ((decide (d2 < (lI a)))=true →
    (0 ≤ d2)∧(d2 < (List.length a))∧(0 ≤ d2)∧(d2 < (List.length b))∧((!(((gD a d2 (0,((0,0),0))).1 == (gD b d2 (0,((0,0),0))).1) && (((gD a d2 (0,((0,0),0))).2.1.1 == (gD b d2 (0,((0,0),0))).2.1.1) && (((gD a d2 (0,((0,0),0))).2.1.2 == (gD b d2 (0,((0,0),0))).2.1.2) && ((gD a d2 (0,((0,0),0))).2.2 == (gD b d2 (0,((0,0),0))).2.2)))))=true →
     (false=(a == b)∧(True))) ∧
    ((!(((gD a d2 (0,((0,0),0))).1 == (gD b d2 (0,((0,0),0))).1) && (((gD a d2 (0,((0,0),0))).2.1.1 == (gD b d2 (0,((0,0),0))).2.1.1) && (((gD a d2 (0,((0,0),0))).2.1.2 == (gD b d2 (0,((0,0),0))).2.1.2) && ((gD a d2 (0,((0,0),0))).2.2 == (gD b d2 (0,((0,0),0))).2.2)))))=false →
     (I64 (d2 + (1:Int)))∧(∃ d3:Int,((a=a∧b=b∧(d2 + (1:Int))=d3∧True)∧(True))∧q2 d3))) ∧
   ((decide (d2 < (lI a)))=false →
    (true=(a == b)∧(True)))) d20)
def cx_law09_same:Cx:=⟨[],[],26,[],0,[],[],[],[],false,[],[],[]⟩
def lp_law09_same (a:List (Int × (Int × Int) × Int)) (b:List (Int × (Int × Int) × Int)):List (Nat × LoopAnn):=[(0,⟨Unit,Int,[0,1,5],fun e x=>[.val (.list (.pair (.i .i64) (.pair (.pair (.i .i64) (.i .i64)) (.i .i64)))) a,.val (.list (.pair (.i .i64) (.pair (.pair (.i .i64) (.i .i64)) (.i .i64)))) b,.val (.i .i64) x],fun e x=>[]⟩)]
set_option maxRecDepth 100000 in
theorem vq_law09_same (d:(List (Int × (Int × Int) × Int)) × List (Int × (Int × Int) × Int)):gwp (cx_law09_same) (lp_law09_same d.1 d.2) c11 0 (gend [.tmp 4] (res_law09_same d) (obs_law09_same d)) (gstart 26 (AL.can al_law09_same d))=vc_law09_same d.1 d.2:=by kernel_rfl
abbrev Ok_law09_same:Prop:=OkC Tryz.prog 11 s_law09_same
theorem mk_law09_same (h:∀ (a:List (Int × (Int × Int) × Int)) (b:List (Int × (Int × Int) × Int)),(a.length ≤ 1000)→vc_law09_same a b):OkC Tryz.prog 11 s_law09_same :=
 okC_vc fun11 mixed (C:=cx_law09_same) (V:=fun (d:(List (Int × (Int × Int) × Int)) × List (Int × (Int × Int) × Int))=>vc_law09_same d.1 d.2) ⟨.nil,XsOk.nil,ItsOk.nil,YlOk.nil,IysOk.nil⟩ (vq_law09_same) fun d hp=>h d.1 d.2 hp
theorem ok_law09_same:Ok_law09_same:=mk_law09_same fun a b h=>by
 unfold vc_law09_same; (try delta lI gD sT I64)
 (try simp only [decide_eq_true_eq,decide_eq_false_iff_not])
 refine ⟨fun hx=>?_,fun hx=>⟨(),0,(by and_intros <;> first | rfl | trivial | simp),?_⟩⟩
 ·refine ⟨Eq.symm ?_,trivial⟩
  rw [beq_eq_false_iff_ne]
  rintro rfl
  simp at hx
 have hl:a.length=b.length:=by simp only [bne_eq_false_iff_eq] at hx; omega
 refine LoopP.count a.length (fun k=>∀ i,i < k→a.getD i lotD=b.getD i lotD) (fun i hi=>by omega) fun k hk hJ q hq=>?_
 simp only [Int.toNat_natCast,InK_i64]
 have hd:∀ l:List Lot,l.getD k (0,((0,0),0))=l.getD k lotD:=fun _=>rfl
 refine ⟨fun hlt=>⟨by omega,by omega,by omega,by omega,fun hx=>?_,fun hx=>⟨by omega,_,(by and_intros <;> first | rfl | trivial | simp),hq (by omega) fun i hi=>?_⟩⟩,fun hge=>?_⟩
 ·refine ⟨Eq.symm ?_,trivial⟩
  rw [beq_eq_false_iff_ne]
  rintro rfl
  simp at hx
 ·rcases Nat.lt_succ_iff_lt_or_eq.1 hi with hi | rfl
  ·exact hJ i hi
  ·simp only [Bool.not_eq_false',Bool.and_eq_true,beq_iff_eq,hd] at hx
   obtain ⟨x1,x2,x3,x4⟩:=hx
   exact Prod.ext x1 (Prod.ext (Prod.ext x2 x3) x4)
 ·have hk:k=a.length:=by omega
  subst hk
  refine ⟨Eq.symm ?_,trivial⟩
  rw [beq_iff_eq]
  exact List.ext_getElem hl fun i h1 h2=>by
   have:=hJ i h1
   rwa [getD_nat h1,getD_nat h2] at this
def al_ref09_Same:AL (List Int × List Int):=(.cons (.k (.list (.i .i64))) (.one (.k (.list (.i .i64)))))
def pre_ref09_Same (d:List Int × List Int):Prop:=d.1.length ≤ 1000
def res_ref09_Same (d:List Int × List Int):SV:=.val .bo (d.1 == d.2)
def obs_ref09_Same (d:List Int × List Int):List OB:=[]
def s_ref09_Same:CSp:=mkSp al_ref09_Same pre_ref09_Same res_ref09_Same obs_ref09_Same
def vc_ref09_Same (a:List Int) (b:List Int):Prop :=
 (((lI a) != (lI b))=true →
  (false=(a == b)∧(True))) ∧
 (((lI a) != (lI b))=false →
  ∃ (e2:Unit) (d20:Int),((a=a∧b=b∧(0:Int)=d20∧True)∧(True)) ∧
  LoopP (fun (d2:Int) (q2:(Int)→Prop) =>
   ((decide (d2 < (lI a)))=true →
    (0 ≤ d2)∧(d2 < (List.length a))∧(0 ≤ d2)∧(d2 < (List.length b))∧(((gD a d2 0) != (gD b d2 0))=true →
     (false=(a == b)∧(True))) ∧
    (((gD a d2 0) != (gD b d2 0))=false →
     (I64 (d2 + (1:Int)))∧(∃ d3:Int,((a=a∧b=b∧(d2 + (1:Int))=d3∧True)∧(True))∧q2 d3))) ∧
   ((decide (d2 < (lI a)))=false →
    (true=(a == b)∧(True)))) d20)
def cx_ref09_Same:Cx:=⟨[],[],26,[],0,[],[],[],[],false,[],[],[]⟩
def lp_ref09_Same (a:List Int) (b:List Int):List (Nat × LoopAnn):=[(0,⟨Unit,Int,[0,1,5],fun e x=>[.val (.list (.i .i64)) a,.val (.list (.i .i64)) b,.val (.i .i64) x],fun e x=>[]⟩)]
set_option maxRecDepth 100000 in
theorem vq_ref09_Same (d:List Int × List Int):gwp (cx_ref09_Same) (lp_ref09_Same d.1 d.2) c12 0 (gend [.tmp 4] (res_ref09_Same d) (obs_ref09_Same d)) (gstart 26 (AL.can al_ref09_Same d))=vc_ref09_Same d.1 d.2:=by kernel_rfl
abbrev Ok_ref09_Same:Prop:=OkC Tryz.prog 12 s_ref09_Same
theorem mk_ref09_Same (h:∀ (a:List Int) (b:List Int),(a.length ≤ 1000)→vc_ref09_Same a b):OkC Tryz.prog 12 s_ref09_Same :=
 okC_vc fun12 mixed (C:=cx_ref09_Same) (V:=fun (d:List Int × List Int)=>vc_ref09_Same d.1 d.2) ⟨.nil,XsOk.nil,ItsOk.nil,YlOk.nil,IysOk.nil⟩ (vq_ref09_Same) fun d hp=>h d.1 d.2 hp
theorem ok_ref09_Same:Ok_ref09_Same:=mk_ref09_Same fun a b h=>by
 unfold vc_ref09_Same; (try delta lI gD sT I64)
 (try simp only [decide_eq_true_eq,decide_eq_false_iff_not])
 refine ⟨fun hx=>?_,fun hx=>⟨(),0,(by and_intros <;> first | rfl | trivial | simp),?_⟩⟩
 ·refine ⟨Eq.symm ?_,trivial⟩
  rw [beq_eq_false_iff_ne]
  rintro rfl
  simp at hx
 have hl:a.length=b.length:=by simp only [bne_eq_false_iff_eq] at hx; omega
 refine LoopP.count a.length (fun k=>∀ i,i < k→a.getD i 0=b.getD i 0) (fun i hi=>by omega) fun k hk hJ q hq=>?_
 simp only [Int.toNat_natCast,InK_i64]
 refine ⟨fun hlt=>⟨by omega,by omega,by omega,by omega,fun hx=>?_,fun hx=>⟨by omega,_,(by and_intros <;> first | rfl | trivial | simp),hq (by omega) fun i hi=>?_⟩⟩,fun hge=>?_⟩
 ·refine ⟨Eq.symm ?_,trivial⟩
  rw [beq_eq_false_iff_ne]
  rintro rfl
  simp at hx
 ·rcases Nat.lt_succ_iff_lt_or_eq.1 hi with hi | rfl
  ·exact hJ i hi
  ·simpa using hx
 ·have hk:k=a.length:=by omega
  subst hk
  refine ⟨Eq.symm ?_,trivial⟩
  rw [beq_iff_eq]
  exact List.ext_getElem hl fun i h1 h2=>by
   have:=hJ i h1
   rwa [getD_nat h1,getD_nat h2] at this
def al_ref09_Check:AL (List (Int × (Int × Int) × Int)):=(.one (.k (.list (.pair (.i .i64) (.pair (.pair (.i .i64) (.i .i64)) (.i .i64))))))
def pre_ref09_Check (d:List (Int × (Int × Int) × Int)):Prop:=d.length ≤ 1000
def res_ref09_Check (d:List (Int × (Int × Int) × Int)):SV:=.val (.i .i64) (lotsErr d)
def obs_ref09_Check (d:List (Int × (Int × Int) × Int)):List OB:=[]
def s_ref09_Check:CSp:=mkSp al_ref09_Check pre_ref09_Check res_ref09_Check obs_ref09_Check
def vc_ref09_Check (l:List (Int × (Int × Int) × Int)):Prop :=
 ((decide ((lI l) > (12:Int)))=true →
  ((5:Int)=(lotsErr l)∧(True))) ∧
 ((decide ((lI l) > (12:Int)))=false →
  ∃ (e2:Unit) (d20:Int),((l=l∧(0:Int)=d20∧True)∧(True)) ∧
  LoopP (fun (d2:Int) (q2:(Int)→Prop) =>
   ((decide (d2 < (lI l)))=true →
    (0 ≤ d2)∧(d2 < (List.length l))∧(True)∧((!(inI ((gD l d2 (0,((0,0),0))).1) (0:Int) (9:Int)))=false→True)∧((((!(inI ((gD l d2 (0,((0,0),0))).1) (0:Int) (9:Int))) || (!(inI ((gD l d2 (0,((0,0),0))).2.1.1) (0:Int) ((gD l d2 (0,((0,0),0))).2.1.2)))) || (decide ((gD l d2 (0,((0,0),0))).2.1.2 > (1000:Int))))=false→True)∧(((((!(inI ((gD l d2 (0,((0,0),0))).1) (0:Int) (9:Int))) || (!(inI ((gD l d2 (0,((0,0),0))).2.1.1) (0:Int) ((gD l d2 (0,((0,0),0))).2.1.2)))) || (decide ((gD l d2 (0,((0,0),0))).2.1.2 > (1000:Int)))) || (!(inI ((gD l d2 (0,((0,0),0))).2.2) (1:Int) (1000000:Int))))=true →
     ((2:Int)=(lotsErr l)∧(True))) ∧
    (((((!(inI ((gD l d2 (0,((0,0),0))).1) (0:Int) (9:Int))) || (!(inI ((gD l d2 (0,((0,0),0))).2.1.1) (0:Int) ((gD l d2 (0,((0,0),0))).2.1.2)))) || (decide ((gD l d2 (0,((0,0),0))).2.1.2 > (1000:Int)))) || (!(inI ((gD l d2 (0,((0,0),0))).2.2) (1:Int) (1000000:Int))))=false →
     (I64 (d2 + (1:Int)))∧(∃ d3:Int,((l=l∧(d2 + (1:Int))=d3∧True)∧(True))∧q2 d3))) ∧
   ((decide (d2 < (lI l)))=false →
    ((0:Int)=(lotsErr l)∧(True)))) d20)
def cx_ref09_Check:Cx:=⟨[],[(14,s_ref09_In)],44,[],0,[],[],[],[],false,[],[],[]⟩
def lp_ref09_Check (l:List (Int × (Int × Int) × Int)):List (Nat × LoopAnn):=[(0,⟨Unit,Int,[0,3],fun e x=>[.val (.list (.pair (.i .i64) (.pair (.pair (.i .i64) (.i .i64)) (.i .i64)))) l,.val (.i .i64) x],fun e x=>[]⟩)]
set_option maxRecDepth 100000 in
theorem vq_ref09_Check (d:List (Int × (Int × Int) × Int)):gwp (cx_ref09_Check) (lp_ref09_Check d) c13 0 (gend [.tmp 2] (res_ref09_Check d) (obs_ref09_Check d)) (gstart 44 (AL.can al_ref09_Check d))=vc_ref09_Check d:=by kernel_rfl
abbrev Ok_ref09_Check:Prop:=OkC Tryz.prog 13 s_ref09_Check
theorem mk_ref09_Check (h:∀ (l:List (Int × (Int × Int) × Int)),(l.length ≤ 1000)→vc_ref09_Check l):OkC Tryz.prog 13 s_ref09_Check :=
 okC_vc fun13 mixed (C:=cx_ref09_Check) (V:=fun (d:List (Int × (Int × Int) × Int))=>vc_ref09_Check d) ⟨(.cons ok_ref09_In .nil),XsOk.nil,ItsOk.nil,YlOk.nil,IysOk.nil⟩ (vq_ref09_Check) fun d hp=>h d hp
theorem refLot (x:Lot):(!inI x.1 0 9 || !inI x.2.1.1 0 x.2.1.2 || decide (x.2.1.2 > 1000) || !inI x.2.2 1 1000000)=!lotOk x:=by
 rw [Bool.eq_iff_iff]
 simp only [Bool.or_eq_true,Bool.not_eq_true',Bool.eq_false_iff,ne_eq,lotOk_iff,inI,Bool.and_eq_true,decide_eq_true_eq]
 omega
theorem ok_ref09_Check:Ok_ref09_Check:=mk_ref09_Check fun l hl=>by
 unfold vc_ref09_Check; (try delta lI gD sT I64)
 simp only [refLot]
 (try simp only [decide_eq_true_eq,decide_eq_false_iff_not])
 refine ⟨fun h1=>⟨?_,trivial⟩,fun h1=>⟨(),0,(by and_intros <;> first | rfl | trivial | simp),?_⟩⟩
 ·unfold lotsErr; rw [if_pos (by omega)]
 refine LoopP.count l.length (fun k=>∀ j,j < k→lotOk (l.getD j lotD)=true) (fun j hj=>by omega) fun k hk hJ q hq=>?_
 simp only [Int.toNat_natCast,InK_i64]
 have hd:∀ l:List Lot,l.getD k (0,((0,0),0))=l.getD k lotD:=fun _=>rfl
 simp only [hd]
 refine ⟨fun hlt=>⟨by omega,hlt,trivial,fun _=>trivial,fun _=>trivial,fun hx=>⟨?_,trivial⟩,fun hx=>⟨by omega,_,(by and_intros <;> first | rfl | trivial | simp),hq (by omega) fun j hj=>?_⟩⟩,fun hge=>⟨?_,trivial⟩⟩
 ·have hkl:k < l.length:=by omega
  rw [getD_nat hkl] at hx
  unfold lotsErr; rw [if_neg (by omega),if_pos (List.any_eq_true.2 ⟨_,List.getElem_mem hkl,hx⟩)]
 ·rcases Nat.lt_succ_iff_lt_or_eq.1 hj with hj | rfl
  ·exact hJ j hj
  ·simpa using hx
 ·have hf:(l.any fun x=>!lotOk x)=false:=by
   rw [List.any_eq_false]
   intro x hx
   obtain ⟨i,hi,rfl⟩:=List.getElem_of_mem hx
   have:=hJ i (by omega)
   rw [getD_nat hi] at this
   rw [this]; decide
  unfold lotsErr; rw [if_neg (by omega),hf,if_neg (by decide)]
def al_ref09_Near:AL ((Int × Int × Int × Int) × Int × Int × Int × Int):=(.cons (.agg (.cons (.k (.i .i64)) (.cons (.k (.i .i64)) (.cons (.k (.i .i64)) (.one (.k (.i .i64))))))) (.one (.agg (.cons (.k (.i .i64)) (.cons (.k (.i .i64)) (.cons (.k (.i .i64)) (.one (.k (.i .i64)))))))))
def pre_ref09_Near (d:(Int × Int × Int × Int) × Int × Int × Int × Int):Prop:=0 ≤ d.1.2.1∧d.1.2.1 ≤ 1000∧0 ≤ d.1.2.2.1∧d.1.2.2.1 ≤ 1000∧0 ≤ d.2.2.1∧d.2.2.1 ≤ 1000∧0 ≤ d.2.2.2.1∧d.2.2.2.1 ≤ 1000
def res_ref09_Near (d:(Int × Int × Int × Int) × Int × Int × Int × Int):SV:=.val (.i .i64) (nearL (d.1.1,(d.1.2.1,d.1.2.2.1),d.1.2.2.2) (d.2.1,(d.2.2.1,d.2.2.2.1),d.2.2.2.2))
def obs_ref09_Near (d:(Int × Int × Int × Int) × Int × Int × Int × Int):List OB:=[]
def s_ref09_Near:CSp:=mkSp al_ref09_Near pre_ref09_Near res_ref09_Near obs_ref09_Near
def vc_ref09_Near (lc:Int) (lo:Int) (hi:Int) (lg:Int) (mc:Int) (mo:Int) (mi:Int) (mg:Int):Prop :=
 (I64 (lo - mi))∧(I64 (mo - hi))∧((gmax (gmax (gmax (0:Int) (lo - mi)) (mo - hi)) (mo - hi))=(nearL (lc,(lo,hi),lg) (mc,(mo,mi),mg))∧(True))
def cx_ref09_Near:Cx:=⟨[],[],20,[],0,[],[],[],[],false,[],[],[]⟩
def lp_ref09_Near (lc:Int) (lo:Int) (hi:Int) (lg:Int) (mc:Int) (mo:Int) (mi:Int) (mg:Int):List (Nat × LoopAnn):=[]
set_option maxRecDepth 100000 in
theorem vq_ref09_Near (d:(Int × Int × Int × Int) × Int × Int × Int × Int):gwp (cx_ref09_Near) (lp_ref09_Near d.1.1 d.1.2.1 d.1.2.2.1 d.1.2.2.2 d.2.1 d.2.2.1 d.2.2.2.1 d.2.2.2.2) c35 0 (gend [.tmp 4] (res_ref09_Near d) (obs_ref09_Near d)) (gstart 20 (AL.can al_ref09_Near d))=vc_ref09_Near d.1.1 d.1.2.1 d.1.2.2.1 d.1.2.2.2 d.2.1 d.2.2.1 d.2.2.2.1 d.2.2.2.2:=by kernel_rfl
abbrev Ok_ref09_Near:Prop:=OkC Tryz.prog 35 s_ref09_Near
theorem mk_ref09_Near (h:∀ (lc:Int) (lo:Int) (hi:Int) (lg:Int) (mc:Int) (mo:Int) (mi:Int) (mg:Int),(0 ≤ lo∧lo ≤ 1000∧0 ≤ hi∧hi ≤ 1000∧0 ≤ mo∧mo ≤ 1000∧0 ≤ mi∧mi ≤ 1000)→vc_ref09_Near lc lo hi lg mc mo mi mg):OkC Tryz.prog 35 s_ref09_Near :=
 okC_vc fun35 mixed (C:=cx_ref09_Near) (V:=fun (d:(Int × Int × Int × Int) × Int × Int × Int × Int)=>vc_ref09_Near d.1.1 d.1.2.1 d.1.2.2.1 d.1.2.2.2 d.2.1 d.2.2.1 d.2.2.2.1 d.2.2.2.2) ⟨.nil,XsOk.nil,ItsOk.nil,YlOk.nil,IysOk.nil⟩ (vq_ref09_Near) fun d hp=>h d.1.1 d.1.2.1 d.1.2.2.1 d.1.2.2.2 d.2.1 d.2.2.1 d.2.2.2.1 d.2.2.2.2 hp
theorem ok_ref09_Near:Ok_ref09_Near:=mk_ref09_Near fun lc lo hi lg mc mo mi mg h=>by
 obtain ⟨h1,h2,h3,h4,h5,h6,h7,h8⟩:=h
 unfold vc_ref09_Near; (try delta lI gD sT I64)
 refine ⟨by rw [InK_i64]; omega,by rw [InK_i64]; omega,?_,trivial⟩
 unfold nearL
 dsimp only
 have e1:=gmax_eq (gmax (gmax 0 (lo - mi)) (mo - hi)) (mo - hi)
 have e2:=gmax_eq (gmax 0 (lo - mi)) (mo - hi)
 omega
def al_ref09_Far:AL ((Int × Int × Int × Int) × Int × Int × Int × Int):=(.cons (.agg (.cons (.k (.i .i64)) (.cons (.k (.i .i64)) (.cons (.k (.i .i64)) (.one (.k (.i .i64))))))) (.one (.agg (.cons (.k (.i .i64)) (.cons (.k (.i .i64)) (.cons (.k (.i .i64)) (.one (.k (.i .i64)))))))))
def pre_ref09_Far (d:(Int × Int × Int × Int) × Int × Int × Int × Int):Prop:=0 ≤ d.1.2.1∧d.1.2.1 ≤ 1000∧0 ≤ d.1.2.2.1∧d.1.2.2.1 ≤ 1000∧0 ≤ d.2.2.1∧d.2.2.1 ≤ 1000∧0 ≤ d.2.2.2.1∧d.2.2.2.1 ≤ 1000
def res_ref09_Far (d:(Int × Int × Int × Int) × Int × Int × Int × Int):SV:=.val (.i .i64) (farL (d.1.1,(d.1.2.1,d.1.2.2.1),d.1.2.2.2) (d.2.1,(d.2.2.1,d.2.2.2.1),d.2.2.2.2))
def obs_ref09_Far (d:(Int × Int × Int × Int) × Int × Int × Int × Int):List OB:=[]
def s_ref09_Far:CSp:=mkSp al_ref09_Far pre_ref09_Far res_ref09_Far obs_ref09_Far
def vc_ref09_Far (lc:Int) (lo:Int) (hi:Int) (lg:Int) (mc:Int) (mo:Int) (mi:Int) (mg:Int):Prop :=
 (I64 (hi - mo))∧(I64 (mi - lo))∧((gmax (hi - mo) (mi - lo))=(farL (lc,(lo,hi),lg) (mc,(mo,mi),mg))∧(True))
def cx_ref09_Far:Cx:=⟨[],[],20,[],0,[],[],[],[],false,[],[],[]⟩
def lp_ref09_Far (lc:Int) (lo:Int) (hi:Int) (lg:Int) (mc:Int) (mo:Int) (mi:Int) (mg:Int):List (Nat × LoopAnn):=[]
set_option maxRecDepth 100000 in
theorem vq_ref09_Far (d:(Int × Int × Int × Int) × Int × Int × Int × Int):gwp (cx_ref09_Far) (lp_ref09_Far d.1.1 d.1.2.1 d.1.2.2.1 d.1.2.2.2 d.2.1 d.2.2.1 d.2.2.2.1 d.2.2.2.2) c36 0 (gend [.tmp 4] (res_ref09_Far d) (obs_ref09_Far d)) (gstart 20 (AL.can al_ref09_Far d))=vc_ref09_Far d.1.1 d.1.2.1 d.1.2.2.1 d.1.2.2.2 d.2.1 d.2.2.1 d.2.2.2.1 d.2.2.2.2:=by kernel_rfl
abbrev Ok_ref09_Far:Prop:=OkC Tryz.prog 36 s_ref09_Far
theorem mk_ref09_Far (h:∀ (lc:Int) (lo:Int) (hi:Int) (lg:Int) (mc:Int) (mo:Int) (mi:Int) (mg:Int),(0 ≤ lo∧lo ≤ 1000∧0 ≤ hi∧hi ≤ 1000∧0 ≤ mo∧mo ≤ 1000∧0 ≤ mi∧mi ≤ 1000)→vc_ref09_Far lc lo hi lg mc mo mi mg):OkC Tryz.prog 36 s_ref09_Far :=
 okC_vc fun36 mixed (C:=cx_ref09_Far) (V:=fun (d:(Int × Int × Int × Int) × Int × Int × Int × Int)=>vc_ref09_Far d.1.1 d.1.2.1 d.1.2.2.1 d.1.2.2.2 d.2.1 d.2.2.1 d.2.2.2.1 d.2.2.2.2) ⟨.nil,XsOk.nil,ItsOk.nil,YlOk.nil,IysOk.nil⟩ (vq_ref09_Far) fun d hp=>h d.1.1 d.1.2.1 d.1.2.2.1 d.1.2.2.2 d.2.1 d.2.2.1 d.2.2.2.1 d.2.2.2.2 hp
theorem ok_ref09_Far:Ok_ref09_Far:=mk_ref09_Far fun lc lo hi lg mc mo mi mg h=>by
 obtain ⟨h1,h2,h3,h4,h5,h6,h7,h8⟩:=h
 unfold vc_ref09_Far; (try delta lI gD sT I64)
 refine ⟨by rw [InK_i64]; omega,by rw [InK_i64]; omega,rfl,trivial⟩
end Go.Proofs.Tryz
set_option linter.unusedVariables false
namespace Go.Proofs.Tryz
open Go Go.V Go.Proofs
def al_shade_spread:AL (List (Int × (Int × Int) × Int)):=(.one (.k (.list (.pair (.i .i64) (.pair (.pair (.i .i64) (.i .i64)) (.i .i64))))))
def pre_shade_spread (d:List (Int × (Int × Int) × Int)):Prop:=d ≠ []∧d.length ≤ 1000∧∀ x ∈ d,lotOk x=true
def res_shade_spread (d:List (Int × (Int × Int) × Int)):SV:=.agg [.val (.i .i64) ((sprD d).1),.val (.i .i64) ((sprD d).2)]
def obs_shade_spread (d:List (Int × (Int × Int) × Int)):List OB:=[]
def s_shade_spread:CSp:=mkSp al_shade_spread pre_shade_spread res_shade_spread obs_shade_spread
def vc_shade_spread (l:List (Int × (Int × Int) × Int)):Prop :=
 (0 ≤ (0:Int))∧((0:Int) < (List.length l))∧(0 ≤ (0:Int))∧((0:Int) < (List.length l))∧((l=l∧True∧True∧True∧((gD l (0:Int) (0,((0,0),0))).2.1.1=(gD l (0:Int) (0,((0,0),0))).2.1.1∧(gD l (0:Int) (0,((0,0),0))).2.1.2=(gD l (0:Int) (0,((0,0),0))).2.1.2∧(([]:List SV)=[]))∧True)∧(((0:Int)=(0:Int)∧(0:Int)=(0:Int)∧(([]:List SV)=[]))∧((gD l (0:Int) (0,((0,0),0))).2.1.1=(gD l (0:Int) (0,((0,0),0))).2.1.1∧(gD l (0:Int) (0,((0,0),0))).2.1.2=(gD l (0:Int) (0,((0,0),0))).2.1.2∧(([]:List SV)=[]))∧((0:Int)=(0:Int)∧(0:Int)=(0:Int)∧(([]:List SV)=[]))∧True))∧((0 ≤ (0:Int))∧((0:Int) < (List.length l))∧(0 ≤ (0:Int))∧((0:Int) < (List.length l))∧((l=l∧True∧True∧True∧((gD l (0:Int) (0,((0,0),0))).2.1.1=(gD l (0:Int) (0,((0,0),0))).2.1.1∧(gD l (0:Int) (0,((0,0),0))).2.1.2=(gD l (0:Int) (0,((0,0),0))).2.1.2∧(([]:List SV)=[]))∧True)∧(((0:Int)=(0:Int)∧(0:Int)=(0:Int)∧(([]:List SV)=[]))∧((gD l (0:Int) (0,((0,0),0))).2.1.1=(gD l (0:Int) (0,((0,0),0))).2.1.1∧(gD l (0:Int) (0,((0,0),0))).2.1.2=(gD l (0:Int) (0,((0,0),0))).2.1.2∧(([]:List SV)=[]))∧((0:Int)=(0:Int)∧(0:Int)=(0:Int)∧(([]:List SV)=[]))∧True)))∧(0 ≤ (1:Int))∧((1:Int) ≤ (lI l))∧((lI l) ≤ (List.length l))∧∃ (e3:Unit) (d30:Int × Int × Int × Int × Int),((True∧True∧True∧(List.take (Int.toNat ((lI l) - (1:Int))) (List.drop (Int.toNat (1:Int)) l))=(List.take (Int.toNat ((lI l) - (1:Int))) (List.drop (Int.toNat (1:Int)) l))∧(lI (List.take (Int.toNat ((lI l) - (1:Int))) (List.drop (Int.toNat (1:Int)) l)))=(lI (List.take (Int.toNat ((lI l) - (1:Int))) (List.drop (Int.toNat (1:Int)) l)))∧(0:Int)=d30.2.2.2.2∧True)∧(((0:Int)=(0:Int)∧(0:Int)=(0:Int)∧(([]:List SV)=[]))∧((gD l (0:Int) (0,((0,0),0))).2.1.1=d30.1∧(gD l (0:Int) (0,((0,0),0))).2.1.2=d30.2.1∧(([]:List SV)=[]))∧((gD l (0:Int) (0,((0,0),0))).2.1.1=d30.2.2.1∧(gD l (0:Int) (0,((0,0),0))).2.1.2=d30.2.2.2.1∧(([]:List SV)=[]))∧True)) ∧
 LoopP (fun (d3:Int × Int × Int × Int × Int) (q3:(Int × Int × Int × Int × Int)→Prop) =>
  ((decide (d3.2.2.2.2 < (lI (List.take (Int.toNat ((lI l) - (1:Int))) (List.drop (Int.toNat (1:Int)) l)))))=true →
   (0 ≤ d3.2.2.2.2)∧(d3.2.2.2.2 < (List.length (List.take (Int.toNat ((lI l) - (1:Int))) (List.drop (Int.toNat (1:Int)) l))))∧(I64 (d3.2.2.2.2 + (1:Int)))∧(∃ d4:Int × Int × Int × Int × Int,((True∧True∧True∧(List.take (Int.toNat ((lI l) - (1:Int))) (List.drop (Int.toNat (1:Int)) l))=(List.take (Int.toNat ((lI l) - (1:Int))) (List.drop (Int.toNat (1:Int)) l))∧(lI (List.take (Int.toNat ((lI l) - (1:Int))) (List.drop (Int.toNat (1:Int)) l)))=(lI (List.take (Int.toNat ((lI l) - (1:Int))) (List.drop (Int.toNat (1:Int)) l)))∧(d3.2.2.2.2 + (1:Int))=d4.2.2.2.2∧True)∧(((0:Int)=(0:Int)∧(0:Int)=(0:Int)∧(([]:List SV)=[]))∧((gmax d3.1 (gD (List.take (Int.toNat ((lI l) - (1:Int))) (List.drop (Int.toNat (1:Int)) l)) d3.2.2.2.2 (0,((0,0),0))).2.1.1)=d4.1∧(gmin d3.2.1 (gD (List.take (Int.toNat ((lI l) - (1:Int))) (List.drop (Int.toNat (1:Int)) l)) d3.2.2.2.2 (0,((0,0),0))).2.1.2)=d4.2.1∧(([]:List SV)=[]))∧((gmin d3.2.2.1 (gD (List.take (Int.toNat ((lI l) - (1:Int))) (List.drop (Int.toNat (1:Int)) l)) d3.2.2.2.2 (0,((0,0),0))).2.1.1)=d4.2.2.1∧(gmax d3.2.2.2.1 (gD (List.take (Int.toNat ((lI l) - (1:Int))) (List.drop (Int.toNat (1:Int)) l)) d3.2.2.2.2 (0,((0,0),0))).2.1.2)=d4.2.2.2.1∧(([]:List SV)=[]))∧True))∧q3 d4)) ∧
  ((decide (d3.2.2.2.2 < (lI (List.take (Int.toNat ((lI l) - (1:Int))) (List.drop (Int.toNat (1:Int)) l)))))=false →
   (I64 (d3.1 - d3.2.1))∧(I64 (d3.2.2.2.1 - d3.2.2.1))∧(((gmax (0:Int) (d3.1 - d3.2.1))=((sprD l).1)∧(d3.2.2.2.1 - d3.2.2.1)=((sprD l).2)∧(([]:List SV)=[]))∧(True)))) d30
def cx_shade_spread:Cx:=⟨[],[],61,[],0,[],[],[],[0,2,3,4,14],false,[],[],[]⟩
def lp_shade_spread (l:List (Int × (Int × Int) × Int)):List (Nat × LoopAnn):=[(0,⟨Unit,Int × Int × Int × Int × Int,[2,3,4,16,17,18],fun e x=>[.box 2 0,.box 3 0,.box 4 0,.val (.list (.pair (.i .i64) (.pair (.pair (.i .i64) (.i .i64)) (.i .i64)))) (List.take (Int.toNat ((((List.length l):Nat):Int) - (1:Int))) (List.drop (Int.toNat (1:Int)) l)),.val (.i .i64) (((List.length (List.take (Int.toNat ((((List.length l):Nat):Int) - (1:Int))) (List.drop (Int.toNat (1:Int)) l))):Nat):Int),.val (.i .i64) x.2.2.2.2],fun e x=>[(2,.slot 2,.cells [.val (.i .i64) (0:Int),.val (.i .i64) (0:Int)] (some 30)),(3,.slot 3,.cells [.val (.i .i64) x.1,.val (.i .i64) x.2.1] (some 30)),(4,.slot 4,.cells [.val (.i .i64) x.2.2.1,.val (.i .i64) x.2.2.2.1] (some 30))]⟩)]
set_option maxRecDepth 100000 in
theorem vq_shade_spread (d:List (Int × (Int × Int) × Int)):gwp (cx_shade_spread) (lp_shade_spread d) c34 0 (gend [.cell 2 true 2] (res_shade_spread d) (obs_shade_spread d)) (gstart 61 (AL.can al_shade_spread d))=vc_shade_spread d:=by kernel_rfl
abbrev Ok_shade_spread:Prop:=OkC Tryz.prog 34 s_shade_spread
theorem mk_shade_spread (h:∀ (l:List (Int × (Int × Int) × Int)),(l ≠ []∧l.length ≤ 1000∧∀ x ∈ l,lotOk x=true)→vc_shade_spread l):OkC Tryz.prog 34 s_shade_spread :=
 okC_vc fun34 mixed (C:=cx_shade_spread) (V:=fun (d:List (Int × (Int × Int) × Int))=>vc_shade_spread d) ⟨.nil,XsOk.nil,ItsOk.nil,YlOk.nil,IysOk.nil⟩ (vq_shade_spread) fun d hp=>h d hp
theorem ok_shade_spread:Ok_shade_spread:=mk_shade_spread fun l h=>by
 obtain ⟨h1,h2,h3⟩:=h
 have hp:1 ≤ l.length:=List.length_pos_iff.2 h1
 unfold vc_shade_spread; (try delta lI gD sT I64)
 simp only [decide_eq_true_eq,decide_eq_false_iff_not]
 have hM:List.take ((l.length:Int) - 1).toNat (List.drop (Int.toNat 1) l)=l.drop 1:=List.take_of_length_le (by rw [List.length_drop]; show l.length - 1 ≤ _; omega)
 have hMl:(l.drop 1).length=l.length - 1:=List.length_drop ..
 have hMk:∀ k,k + 1 < l.length→(l.drop 1).getD k (0,((0,0),0))=l[k + 1]?.getD lotD:=fun k hk=>by
  rw [getD_nat (by omega),List.getElem_drop,List.getElem?_eq_getElem hk]
  simp only [Option.getD_some,Nat.add_comm]
 have h0:l.getD (Int.toNat 0) (0,((0,0),0))=l.getD 0 lotD:=rfl
 have s1:=sprF_one h1
 rw [hM,h0]
 refine ⟨by omega,by omega,by omega,by omega,(by and_intros <;> first | rfl | trivial | simp),⟨by omega,by omega,by omega,by omega,(by and_intros <;> first | rfl | trivial | simp)⟩,by omega,by omega,by omega,(),((sprF l 1).1,(sprF l 1).2.1,(sprF l 1).2.2.1,(sprF l 1).2.2.2,0),by rw [s1]; exact (by and_intros <;> first | rfl | trivial | simp),?_⟩
 refine ⟨fun d=>∃ k:Nat,k + 1 ≤ l.length∧d=((sprF l (k + 1)).1,(sprF l (k + 1)).2.1,(sprF l (k + 1)).2.2.1,(sprF l (k + 1)).2.2.2,(k:Int)),fun d=>l.length - d.2.2.2.2.toNat,⟨0,hp,rfl⟩,?_⟩
 rintro _ ⟨k,hk,rfl⟩
 dsimp only
 simp only [Int.toNat_natCast,hMl]
 refine ⟨fun hlt=>?_,fun hge=>?_⟩
 ·have hk1:k + 1 < l.length:=by omega
  rw [hMk k hk1,List.getElem?_eq_getElem hk1,Option.getD_some]
  have hs:=sprF_succ hk1
  refine ⟨by omega,by omega,by rw [InK_i64]; omega,((sprF l (k + 1 + 1)).1,(sprF l (k + 1 + 1)).2.1,(sprF l (k + 1 + 1)).2.2.1,(sprF l (k + 1 + 1)).2.2.2,(k:Int) + 1),by rw [hs]; exact (by and_intros <;> first | rfl | trivial | simp),⟨k + 1,by omega,by simp⟩,?_⟩
  dsimp only
  omega
 ·have hkl:k + 1=l.length:=by omega
  obtain ⟨a,⟨i1,b1,c1⟩,⟨i2,b2,c2⟩,⟨i3,b3,c3⟩,⟨i4,b4,c4⟩⟩:=sprF_spec h1 l.length hp (Nat.le_refl _)
  have hv:∀ i,i < l.length→0 ≤ (l.getD i lotD).2.1.1∧(l.getD i lotD).2.1.1 ≤ 1000∧0 ≤ (l.getD i lotD).2.1.2∧(l.getD i lotD).2.1.2 ≤ 1000:=fun i hi=>by
   have:=lotOk_iff.1 (h3 _ (List.getElem_mem hi))
   rw [getD_nat hi]; omega
  have v1:=hv i1 b1
  have v2:=hv i2 b2
  have v3:=hv i3 b3
  have v4:=hv i4 b4
  rw [hkl]
  unfold sprD
  refine ⟨by rw [InK_i64]; omega,by rw [InK_i64]; omega,?_⟩
  and_intros <;> first | rfl | trivial
end Go.Proofs.Tryz
set_option linter.unusedVariables false
namespace Go.Proofs.Tryz
open Go Go.V Go.Proofs
def al_shade_Spread:AL ((List (Int × (Int × Int) × Int)) × List Int):=(.cons (.k (.list (.pair (.i .i64) (.pair (.pair (.i .i64) (.i .i64)) (.i .i64))))) (.one (.k (.list (.i .i64)))))
def pre_shade_Spread (d:(List (Int × (Int × Int) × Int)) × List Int):Prop:=d.1.length ≤ 1000∧d.2.length ≤ 1000
def res_shade_Spread (d:(List (Int × (Int × Int) × Int)) × List Int):SV:=.tup [.agg [.val (.i .i64) ((spreadSp d.1 d.2).1),.val (.i .i64) ((spreadSp d.1 d.2).2)],.val (.i .i64) (spreadErr d.1 d.2)]
def obs_shade_Spread (d:(List (Int × (Int × Int) × Int)) × List Int):List OB:=[]
def s_shade_Spread:CSp:=mkSp al_shade_Spread pre_shade_Spread res_shade_Spread obs_shade_Spread
def vc_shade_Spread (l:List (Int × (Int × Int) × Int)) (sm:List Int):Prop :=
 (l.length ≤ 1000)∧(((lotsErr l) != (0:Int))=true →
  ((((0:Int)=((spreadSp l sm).1)∧(0:Int)=((spreadSp l sm).2)∧(([]:List SV)=[]))∧(lotsErr l)=(spreadErr l sm)∧(([]:List SV)=[]))∧(True))) ∧
 (((lotsErr l) != (0:Int))=false →
  (((lI sm) == (0:Int))=false→InK .i64 ((lI l) - (1:Int)))∧(((lI sm) == (0:Int))=false→sm.length ≤ 1000000)∧((((lI sm) == (0:Int)) || (!(!(sm.any fun n=>decide (n < (0:Int)) || decide (((lI l) - (1:Int)) < n)))))=true →
   ((((0:Int)=((spreadSp l sm).1)∧(0:Int)=((spreadSp l sm).2)∧(([]:List SV)=[]))∧(7:Int)=(spreadErr l sm)∧(([]:List SV)=[]))∧(True))) ∧
  ((((lI sm) == (0:Int)) || (!(!(sm.any fun n=>decide (n < (0:Int)) || decide (((lI l) - (1:Int)) < n)))))=false →
   ∃ (e4:Unit) (d40:(List (Int × (Int × Int) × Int)) × (List (Int × Bool)) × Int),((l=l∧True∧True∧True∧sm=sm∧(lI sm)=(lI sm)∧(0:Int)=d40.2.2∧True)∧(((0:Int)=(0:Int)∧(0:Int)=(0:Int)∧(([]:List SV)=[]))∧(d40.1=[]∧(List.isEmpty d40.1)=true)∧(([]:List (Int × Bool))=d40.2.1)∧True)) ∧
   LoopP (fun (d4:(List (Int × (Int × Int) × Int)) × (List (Int × Bool)) × Int) (q4:((List (Int × (Int × Int) × Int)) × (List (Int × Bool)) × Int)→Prop) =>
    ((decide (d4.2.2 < (lI sm)))=true →
     (0 ≤ d4.2.2)∧(d4.2.2 < (List.length sm))∧((gq.aget (.i .i64) d4.2.1 (gD sm d4.2.2 0) false)=true →
      ((((0:Int)=((spreadSp l sm).1)∧(0:Int)=((spreadSp l sm).2)∧(([]:List SV)=[]))∧(6:Int)=(spreadErr l sm)∧(([]:List SV)=[]))∧(True))) ∧
     ((gq.aget (.i .i64) d4.2.1 (gD sm d4.2.2 0) false)=false →
      (0 ≤ (gD sm d4.2.2 0))∧((gD sm d4.2.2 0) < (List.length l))∧(((List.length d4.1) + (List.length [((gD l (gD sm d4.2.2 0) (0,((0,0),0))).1,(((gD l (gD sm d4.2.2 0) (0,((0,0),0))).2.1.1,(gD l (gD sm d4.2.2 0) (0,((0,0),0))).2.1.2),(gD l (gD sm d4.2.2 0) (0,((0,0),0))).2.2))])) * 32 ≤ 70368744177664)∧(I64 (d4.2.2 + (1:Int)))∧(∃ d5:(List (Int × (Int × Int) × Int)) × (List (Int × Bool)) × Int,((l=l∧True∧True∧True∧sm=sm∧(lI sm)=(lI sm)∧(d4.2.2 + (1:Int))=d5.2.2∧True)∧(((0:Int)=(0:Int)∧(0:Int)=(0:Int)∧(([]:List SV)=[]))∧((d4.1++[((gD l (gD sm d4.2.2 0) (0,((0,0),0))).1,(((gD l (gD sm d4.2.2 0) (0,((0,0),0))).2.1.1,(gD l (gD sm d4.2.2 0) (0,((0,0),0))).2.1.2),(gD l (gD sm d4.2.2 0) (0,((0,0),0))).2.2))])=d5.1∧false=(List.isEmpty d5.1))∧((aput (.i .i64) d4.2.1 (gD sm d4.2.2 0) true)=d5.2.1)∧True))∧q4 d5))) ∧
    ((decide (d4.2.2 < (lI sm)))=false →
     (d4.1 ≠ []∧d4.1.length ≤ 1000∧∀ x ∈ d4.1,lotOk x=true)∧(((((sprD d4.1).1)=((spreadSp l sm).1)∧((sprD d4.1).2)=((spreadSp l sm).2)∧(([]:List SV)=[]))∧(0:Int)=(spreadErr l sm)∧(([]:List SV)=[]))∧(True)))) d40))
def cx_shade_Spread:Cx:=⟨[(74,(.pair (.i .i64) (.pair (.pair (.i .i64) (.i .i64)) (.i .i64)))),(1000029,(.pair (.i .i64) .bo))],[(9,s_shade_Check),(33,s_shade_within),(34,s_shade_spread)],52,[],0,[],[],[],[],false,[],[],[]⟩
def lp_shade_Spread (l:List (Int × (Int × Int) × Int)) (sm:List Int):List (Nat × LoopAnn):=[(0,⟨Unit,(List (Int × (Int × Int) × Int)) × (List (Int × Bool)) × Int,[0,4,7,8,30,31,32],fun e x=>[.val (.list (.pair (.i .i64) (.pair (.pair (.i .i64) (.i .i64)) (.i .i64)))) l,.box 4 0,.lst 48,.map 29,.val (.list (.i .i64)) sm,.val (.i .i64) (((List.length sm):Nat):Int),.val (.i .i64) x.2.2],fun e x=>[(4,.slot 4,.cells [.val (.i .i64) (0:Int),.val (.i .i64) (0:Int)] (some 30)),(48,.slot 7,.lst 74 (.pair (.i .i64) (.pair (.pair (.i .i64) (.i .i64)) (.i .i64))) x.1 (List.isEmpty x.1)),(29,.slot 8,.map (.i .i64) .bo x.2.1)]⟩)]
set_option maxRecDepth 100000 in
theorem vq_shade_Spread (d:(List (Int × (Int × Int) × Int)) × List Int):gwp (cx_shade_Spread) (lp_shade_Spread d.1 d.2) c10 0 (gend [.cell 4 true 2,.tmp 5] (res_shade_Spread d) (obs_shade_Spread d)) (gstart 52 (AL.can al_shade_Spread d))=vc_shade_Spread d.1 d.2:=by kernel_rfl
abbrev Ok_shade_Spread:Prop:=OkC Tryz.prog 10 s_shade_Spread
theorem mk_shade_Spread (h:∀ (l:List (Int × (Int × Int) × Int)) (sm:List Int),(l.length ≤ 1000∧sm.length ≤ 1000)→vc_shade_Spread l sm):OkC Tryz.prog 10 s_shade_Spread :=
 okC_vc fun10 mixed (C:=cx_shade_Spread) (V:=fun (d:(List (Int × (Int × Int) × Int)) × List Int)=>vc_shade_Spread d.1 d.2) ⟨(.cons ok_shade_Check (.cons ok_shade_within (.cons ok_shade_spread .nil))),XsOk.nil,ItsOk.nil,YlOk.nil,IysOk.nil⟩ (vq_shade_Spread) fun d hp=>h d.1 d.2 hp
end Go.Proofs.Tryz
set_option linter.unusedVariables false
namespace Go.Proofs.Tryz
open Go Go.V Go.Proofs
theorem lots_zero {l:List Lot} (h:lotsErr l=0):l.length ≤ 12∧∀ x ∈ l,lotOk x=true:=by
 unfold lotsErr at h
 split at h
 ·cases h
 ·split at h
  ·cases h
  ·rename_i h1 h2
   refine ⟨by omega,fun x hx=>?_⟩
   have:=List.any_eq_false.1 (Bool.eq_false_iff.2 h2) x hx
   simpa using this
theorem pickL_snoc {l:List Lot} {sm:List Int} {k:Nat} (h:k < sm.length):pickL l (sm.take (k + 1))=pickL l (sm.take k)++[l.getD (sm.getD k 0).toNat lotD]:=by
 unfold pickL; rw [take_succ_eq h,List.map_append,getD_nat h]; rfl
theorem pickL_ok {l:List Lot} {sm:List Int} (h:∀ x ∈ l,lotOk x=true) (hs:∀ i ∈ sm,0 ≤ i∧i < l.length):∀ x ∈ pickL l sm,lotOk x=true:=fun x hx=>by
 simp only [pickL,List.mem_map] at hx
 obtain ⟨i,hi,rfl⟩:=hx
 have:=hs i hi
 rw [getD_nat (show i.toNat < l.length by omega)]
 exact h _ (List.getElem_mem _)
theorem spread_err {l:List Lot} {sm:List Int} {e:Int} (h:spreadErr l sm=e) (h0:e ≠ 0):(0=(spreadSp l sm).1∧0=(spreadSp l sm).2)∧e=spreadErr l sm:=by
 have:spreadSp l sm=(0,0):=by unfold spreadSp; rw [h,if_neg h0]
 rw [this,h]; exact ⟨⟨rfl,rfl⟩,rfl⟩
theorem ok_shade_Spread:Ok_shade_Spread:=mk_shade_Spread fun l sm h=>by
 obtain ⟨h1,h2⟩:=h
 unfold vc_shade_Spread; (try delta lI gD sT I64)
 have e:∀ n a b:Int,(decide (n < a) || decide (b < n))=!inI n a b:=fun n a b=>(nI n a b).symm
 simp only [e,Bool.not_not,decide_eq_true_eq,decide_eq_false_iff_not,bne_iff_ne,bne_eq_false_iff_eq,ne_eq]
 refine ⟨h1,fun a1=>?_,fun a1=>⟨fun _=>by rw [InK_i64]; omega,fun _=>by omega,fun a2=>?_,fun a2=>?_⟩⟩
 ·have:=spread_err (l:=l) (sm:=sm) (e:=lotsErr l) (by unfold spreadErr; rw [if_pos a1]) a1
  and_intros <;> first | exact this.1.1 | exact this.1.2 | exact this.2 | trivial
 ·have:=spread_err (l:=l) (sm:=sm) (e:=7) (by
   unfold spreadErr
   rw [if_neg (by omega),if_pos]
   rw [Bool.or_eq_true] at a2
   rcases a2 with a2 | a2
   ·left; have:=eq_of_beq a2; exact List.length_eq_zero_iff.1 (by omega)
   ·exact .inr a2) (by decide)
  and_intros <;> first | exact this.1.1 | exact this.1.2 | exact this.2 | trivial
 rw [Bool.or_eq_false_iff] at a2
 have a3:sm ≠ []:=fun h=>by rw [h] at a2; simp at a2
 have a4:∀ i ∈ sm,0 ≤ i∧i < l.length:=fun i hi=>by
  have:=List.any_eq_false.1 a2.2 i hi
  simp only [Bool.not_eq_true',Bool.not_eq_false,inI,Bool.and_eq_true,decide_eq_true_eq] at this
  omega
 have hse:spreadErr l sm=if dupL sm then 6 else 0:=by
  unfold spreadErr
  rw [if_neg (by omega),if_neg]
  rintro (h | h)
  ·exact a3 h
  ·rw [a2.2] at h; cases h
 obtain ⟨l1,l2⟩:=lots_zero a1
 refine ⟨(),([],[],0),(by and_intros <;> first | rfl | trivial | simp),?_⟩
 refine LoopP.count3 sm.length (fun k L m=>L=pickL l (sm.take k)∧(∀ x,gq.aget (.i .i64) m x false=decide (x ∈ sm.take k))∧∀ j,j < k→sm.getD j 0 ∉ sm.take j) ⟨rfl,fun x=>by simp; rfl,fun j hj=>by omega⟩ fun k L m hk hJ q hq=>?_
 obtain ⟨rfl,j2,j3⟩:=hJ
 dsimp only
 simp only [Int.toNat_natCast]
 refine ⟨fun hlt=>?_,fun hge=>?_⟩
 ·have hkl:k < sm.length:=by omega
  have hxm:sm.getD k 0 ∈ sm:=by rw [getD_nat hkl]; exact List.getElem_mem hkl
  have hx:=a4 _ hxm
  simp only [j2,decide_eq_true_eq,decide_eq_false_iff_not]
  refine ⟨by omega,hlt,fun hu=>?_,fun hu=>⟨by omega,by omega,?_,by rw [InK_i64]; omega,(pickL l (sm.take (k + 1)),aput (.i .i64) m (sm.getD k 0) true,(k:Int) + 1),?_,hq _ _ hkl ⟨rfl,fun x=>?_,fun j hj=>?_⟩⟩⟩
  ·have hd:dupL sm=true:=List.any_eq_true.2 ⟨k,List.mem_range.2 hkl,decide_eq_true hu⟩
   have:=spread_err (l:=l) (sm:=sm) (e:=6) (by rw [hse,if_pos hd]) (by decide)
   and_intros <;> first | exact this.1.1 | exact this.1.2 | exact this.2 | trivial
  ·simp only [pickL,List.length_map,List.length_take,List.length_cons,List.length_nil]; omega
  ·rw [pickL_snoc hkl]
   have:((pickL l (sm.take k)++[l.getD (sm.getD k 0).toNat lotD]).isEmpty)=false:=by simp
   and_intros <;> first | rfl | trivial | exact this.symm
  ·have hm:x ∈ sm.take (k + 1) ↔ x ∈ sm.take k ∨ x=sm.getD k 0:=by rw [take_succ_eq hkl,List.mem_append,List.mem_singleton,getD_nat hkl]
   rw [aget_aput,j2]
   by_cases h5:x=sm.getD k 0
   ·rw [if_pos h5]; exact (decide_eq_true (hm.2 (.inr h5))).symm
   ·rw [if_neg h5,Bool.eq_iff_iff,decide_eq_true_eq,decide_eq_true_eq,hm]
    exact ⟨.inl,fun h=>h.resolve_right h5⟩
  ·rcases Nat.lt_succ_iff_lt_or_eq.1 hj with hj | rfl
   ·exact j3 j hj
   ·exact hu
 ·have hke:k=sm.length:=by omega
  subst hke
  rw [List.take_length] at *
  have hd:dupL sm=false:=by
   rw [dupL,List.any_eq_false]
   intro j hj
   simpa using j3 j (List.mem_range.1 hj)
  have h6:spreadErr l sm=0:=by rw [hse,hd]; rfl
  have h7:spreadSp l sm=sprD (pickL l sm):=by unfold spreadSp; rw [if_pos h6]
  rw [h6,h7]
  refine ⟨⟨?_,by simp [pickL]; omega,pickL_ok l2 a4⟩,?_⟩
  ·simpa [pickL] using a3
  ·and_intros <;> first | rfl | trivial
end Go.Proofs.Tryz
set_option linter.unusedVariables false
namespace Go.Proofs.Tryz
open Go Go.V Go.Proofs
def al_ref09_Spread:AL ((List (Int × (Int × Int) × Int)) × List Int):=(.cons (.k (.list (.pair (.i .i64) (.pair (.pair (.i .i64) (.i .i64)) (.i .i64))))) (.one (.k (.list (.i .i64)))))
def pre_ref09_Spread (d:(List (Int × (Int × Int) × Int)) × List Int):Prop:=d.1.length ≤ 1000∧d.2.length ≤ 1000∧(∀ x ∈ d.1,lotOk x=true)∧∀ i ∈ d.2,0 ≤ i∧i < d.1.length
def res_ref09_Spread (d:(List (Int × (Int × Int) × Int)) × List Int):SV:=.agg [.val (.i .i64) ((refSp d.1 d.2).1),.val (.i .i64) ((refSp d.1 d.2).2)]
def obs_ref09_Spread (d:(List (Int × (Int × Int) × Int)) × List Int):List OB:=[]
def s_ref09_Spread:CSp:=mkSp al_ref09_Spread pre_ref09_Spread res_ref09_Spread obs_ref09_Spread
def vc_ref09_Spread (l:List (Int × (Int × Int) × Int)) (sm:List Int):Prop :=
 ∃ (e3:Unit) (d30:Int × Int × Int),((l=l∧sm=sm∧True∧True∧(0:Int)=d30.2.2∧True)∧(((0:Int)=(0:Int)∧(0:Int)=(0:Int)∧(([]:List SV)=[]))∧((0:Int)=d30.1∧(0:Int)=d30.2.1∧(([]:List SV)=[]))∧True)) ∧
 LoopP (fun (d3:Int × Int × Int) (q3:(Int × Int × Int)→Prop) =>
  ((decide (d3.2.2 < (lI sm)))=true →
   ∃ (e6:Int) (d60:Int × Int × Int),((l=l∧sm=sm∧True∧True∧d3.2.2=e6∧(0:Int)=d60.2.2∧True)∧(((0:Int)=(0:Int)∧(0:Int)=(0:Int)∧(([]:List SV)=[]))∧(d3.1=d60.1∧d3.2.1=d60.2.1∧(([]:List SV)=[]))∧True)) ∧
   LoopP (fun (d6:Int × Int × Int) (q6:(Int × Int × Int)→Prop) =>
    ((decide (d6.2.2 < (lI sm)))=true →
     (0 ≤ e6)∧(e6 < (List.length sm))∧(0 ≤ (gD sm e6 0))∧((gD sm e6 0) < (List.length l))∧(0 ≤ d6.2.2)∧(d6.2.2 < (List.length sm))∧(0 ≤ (gD sm d6.2.2 0))∧((gD sm d6.2.2 0) < (List.length l))∧((l=l∧sm=sm∧True∧True∧e6=e6∧d6.2.2=d6.2.2∧True∧True∧((gD l (gD sm d6.2.2 0) (0,((0,0),0))).1=(gD l (gD sm d6.2.2 0) (0,((0,0),0))).1∧(gD l (gD sm d6.2.2 0) (0,((0,0),0))).2.1.1=(gD l (gD sm d6.2.2 0) (0,((0,0),0))).2.1.1∧(gD l (gD sm d6.2.2 0) (0,((0,0),0))).2.1.2=(gD l (gD sm d6.2.2 0) (0,((0,0),0))).2.1.2∧(gD l (gD sm d6.2.2 0) (0,((0,0),0))).2.2=(gD l (gD sm d6.2.2 0) (0,((0,0),0))).2.2∧(([]:List SV)=[]))∧True)∧(((0:Int)=(0:Int)∧(0:Int)=(0:Int)∧(([]:List SV)=[]))∧(d6.1=d6.1∧d6.2.1=d6.2.1∧(([]:List SV)=[]))∧((gD l (gD sm e6 0) (0,((0,0),0))).1=(gD l (gD sm e6 0) (0,((0,0),0))).1∧(gD l (gD sm e6 0) (0,((0,0),0))).2.1.1=(gD l (gD sm e6 0) (0,((0,0),0))).2.1.1∧(gD l (gD sm e6 0) (0,((0,0),0))).2.1.2=(gD l (gD sm e6 0) (0,((0,0),0))).2.1.2∧(gD l (gD sm e6 0) (0,((0,0),0))).2.2=(gD l (gD sm e6 0) (0,((0,0),0))).2.2∧(([]:List SV)=[]))∧((0:Int)=(0:Int)∧(0:Int)=(0:Int)∧(0:Int)=(0:Int)∧(0:Int)=(0:Int)∧(([]:List SV)=[]))∧True))∧((0 ≤ e6)∧(e6 < (List.length sm))∧(0 ≤ (gD sm e6 0))∧((gD sm e6 0) < (List.length l))∧(0 ≤ d6.2.2)∧(d6.2.2 < (List.length sm))∧(0 ≤ (gD sm d6.2.2 0))∧((gD sm d6.2.2 0) < (List.length l))∧((l=l∧sm=sm∧True∧True∧e6=e6∧d6.2.2=d6.2.2∧True∧True∧((gD l (gD sm d6.2.2 0) (0,((0,0),0))).1=(gD l (gD sm d6.2.2 0) (0,((0,0),0))).1∧(gD l (gD sm d6.2.2 0) (0,((0,0),0))).2.1.1=(gD l (gD sm d6.2.2 0) (0,((0,0),0))).2.1.1∧(gD l (gD sm d6.2.2 0) (0,((0,0),0))).2.1.2=(gD l (gD sm d6.2.2 0) (0,((0,0),0))).2.1.2∧(gD l (gD sm d6.2.2 0) (0,((0,0),0))).2.2=(gD l (gD sm d6.2.2 0) (0,((0,0),0))).2.2∧(([]:List SV)=[]))∧True)∧(((0:Int)=(0:Int)∧(0:Int)=(0:Int)∧(([]:List SV)=[]))∧(d6.1=d6.1∧d6.2.1=d6.2.1∧(([]:List SV)=[]))∧((gD l (gD sm e6 0) (0,((0,0),0))).1=(gD l (gD sm e6 0) (0,((0,0),0))).1∧(gD l (gD sm e6 0) (0,((0,0),0))).2.1.1=(gD l (gD sm e6 0) (0,((0,0),0))).2.1.1∧(gD l (gD sm e6 0) (0,((0,0),0))).2.1.2=(gD l (gD sm e6 0) (0,((0,0),0))).2.1.2∧(gD l (gD sm e6 0) (0,((0,0),0))).2.2=(gD l (gD sm e6 0) (0,((0,0),0))).2.2∧(([]:List SV)=[]))∧((0:Int)=(0:Int)∧(0:Int)=(0:Int)∧(0:Int)=(0:Int)∧(0:Int)=(0:Int)∧(([]:List SV)=[]))∧True)))∧(0 ≤ ((gD l (gD sm e6 0) (0,((0,0),0))).2.1.1)∧((gD l (gD sm e6 0) (0,((0,0),0))).2.1.1) ≤ 1000∧0 ≤ ((gD l (gD sm e6 0) (0,((0,0),0))).2.1.2)∧((gD l (gD sm e6 0) (0,((0,0),0))).2.1.2) ≤ 1000∧0 ≤ ((gD l (gD sm d6.2.2 0) (0,((0,0),0))).2.1.1)∧((gD l (gD sm d6.2.2 0) (0,((0,0),0))).2.1.1) ≤ 1000∧0 ≤ ((gD l (gD sm d6.2.2 0) (0,((0,0),0))).2.1.2)∧((gD l (gD sm d6.2.2 0) (0,((0,0),0))).2.1.2) ≤ 1000)∧(0 ≤ ((gD l (gD sm e6 0) (0,((0,0),0))).2.1.1)∧((gD l (gD sm e6 0) (0,((0,0),0))).2.1.1) ≤ 1000∧0 ≤ ((gD l (gD sm e6 0) (0,((0,0),0))).2.1.2)∧((gD l (gD sm e6 0) (0,((0,0),0))).2.1.2) ≤ 1000∧0 ≤ ((gD l (gD sm d6.2.2 0) (0,((0,0),0))).2.1.1)∧((gD l (gD sm d6.2.2 0) (0,((0,0),0))).2.1.1) ≤ 1000∧0 ≤ ((gD l (gD sm d6.2.2 0) (0,((0,0),0))).2.1.2)∧((gD l (gD sm d6.2.2 0) (0,((0,0),0))).2.1.2) ≤ 1000)∧(I64 (d6.2.2 + (1:Int)))∧(∃ d7:Int × Int × Int,((l=l∧sm=sm∧True∧True∧e6=e6∧(d6.2.2 + (1:Int))=d7.2.2∧True)∧(((0:Int)=(0:Int)∧(0:Int)=(0:Int)∧(([]:List SV)=[]))∧((gmax d6.1 (nearL (((gD l (gD sm e6 0) (0,((0,0),0))).1),(((gD l (gD sm e6 0) (0,((0,0),0))).2.1.1),((gD l (gD sm e6 0) (0,((0,0),0))).2.1.2)),((gD l (gD sm e6 0) (0,((0,0),0))).2.2)) (((gD l (gD sm d6.2.2 0) (0,((0,0),0))).1),(((gD l (gD sm d6.2.2 0) (0,((0,0),0))).2.1.1),((gD l (gD sm d6.2.2 0) (0,((0,0),0))).2.1.2)),((gD l (gD sm d6.2.2 0) (0,((0,0),0))).2.2))))=d7.1∧(gmax d6.2.1 (farL (((gD l (gD sm e6 0) (0,((0,0),0))).1),(((gD l (gD sm e6 0) (0,((0,0),0))).2.1.1),((gD l (gD sm e6 0) (0,((0,0),0))).2.1.2)),((gD l (gD sm e6 0) (0,((0,0),0))).2.2)) (((gD l (gD sm d6.2.2 0) (0,((0,0),0))).1),(((gD l (gD sm d6.2.2 0) (0,((0,0),0))).2.1.1),((gD l (gD sm d6.2.2 0) (0,((0,0),0))).2.1.2)),((gD l (gD sm d6.2.2 0) (0,((0,0),0))).2.2))))=d7.2.1∧(([]:List SV)=[]))∧True))∧q6 d7)) ∧
    ((decide (d6.2.2 < (lI sm)))=false →
     (I64 (e6 + (1:Int)))∧(∃ d8:Int × Int × Int,((l=l∧sm=sm∧True∧True∧(e6 + (1:Int))=d8.2.2∧True)∧(((0:Int)=(0:Int)∧(0:Int)=(0:Int)∧(([]:List SV)=[]))∧(d6.1=d8.1∧d6.2.1=d8.2.1∧(([]:List SV)=[]))∧True))∧q3 d8))) d60) ∧
  ((decide (d3.2.2 < (lI sm)))=false →
   ((d3.1=((refSp l sm).1)∧d3.2.1=((refSp l sm).2)∧(([]:List SV)=[]))∧(True)))) d30
def cx_ref09_Spread:Cx:=⟨[],[(35,s_ref09_Near),(36,s_ref09_Far)],51,[],0,[],[],[],[0,1,4,5,6,7,8,9,36],false,[],[],[]⟩
def lp_ref09_Spread (l:List (Int × (Int × Int) × Int)) (sm:List Int):List (Nat × LoopAnn):=[(0,⟨Unit,Int × Int × Int,[0,1,4,5,6],fun e x=>[.val (.list (.pair (.i .i64) (.pair (.pair (.i .i64) (.i .i64)) (.i .i64)))) l,.val (.list (.i .i64)) sm,.box 4 0,.box 5 0,.val (.i .i64) x.2.2],fun e x=>[(4,.slot 4,.cells [.val (.i .i64) (0:Int),.val (.i .i64) (0:Int)] (some 30)),(5,.slot 5,.cells [.val (.i .i64) x.1,.val (.i .i64) x.2.1] (some 30))]⟩),
 (2,⟨Int,Int × Int × Int,[0,1,4,5,6,7],fun e x=>[.val (.list (.pair (.i .i64) (.pair (.pair (.i .i64) (.i .i64)) (.i .i64)))) l,.val (.list (.i .i64)) sm,.box 4 0,.box 5 0,.val (.i .i64) e,.val (.i .i64) x.2.2],fun e x=>[(4,.slot 4,.cells [.val (.i .i64) (0:Int),.val (.i .i64) (0:Int)] (some 30)),(5,.slot 5,.cells [.val (.i .i64) x.1,.val (.i .i64) x.2.1] (some 30))]⟩)]
set_option maxRecDepth 100000 in
theorem vq_ref09_Spread (d:(List (Int × (Int × Int) × Int)) × List Int):gwp (cx_ref09_Spread) (lp_ref09_Spread d.1 d.2) c15 0 (gend [.cell 4 true 2] (res_ref09_Spread d) (obs_ref09_Spread d)) (gstart 51 (AL.can al_ref09_Spread d))=vc_ref09_Spread d.1 d.2:=by kernel_rfl
abbrev Ok_ref09_Spread:Prop:=OkC Tryz.prog 15 s_ref09_Spread
theorem mk_ref09_Spread (h:∀ (l:List (Int × (Int × Int) × Int)) (sm:List Int),(l.length ≤ 1000∧sm.length ≤ 1000∧(∀ x ∈ l,lotOk x=true)∧∀ i ∈ sm,0 ≤ i∧i < l.length)→vc_ref09_Spread l sm):OkC Tryz.prog 15 s_ref09_Spread :=
 okC_vc fun15 mixed (C:=cx_ref09_Spread) (V:=fun (d:(List (Int × (Int × Int) × Int)) × List Int)=>vc_ref09_Spread d.1 d.2) ⟨(.cons ok_ref09_Near (.cons ok_ref09_Far .nil)),XsOk.nil,ItsOk.nil,YlOk.nil,IysOk.nil⟩ (vq_ref09_Spread) fun d hp=>h d.1 d.2 hp
end Go.Proofs.Tryz
set_option linter.unusedVariables false
namespace Go.Proofs.Tryz
open Go Go.V Go.Proofs
theorem getD_mem0 {lw:List Int} {w:Nat} (hw:w < lw.length):lw.getD w 0 ∈ lw:=by rw [getD_nat hw]; exact List.getElem_mem hw
theorem pickL_at {l:List Lot} {sm:List Int} {i:Nat} (h:i < sm.length):(pickL l sm).getD i lotD=l.getD (sm.getD i 0).toNat lotD:=by
 rw [getD_nat (by simpa [pickL] using h),getD_nat h]; simp [pickL]
theorem ok_ref09_Spread:Ok_ref09_Spread:=mk_ref09_Spread fun l sm h=>by
 obtain ⟨h1,h2,h3,h4⟩:=h
 have hpl:(pickL l sm).length=sm.length:=by simp [pickL]
 unfold vc_ref09_Spread; (try delta lI gD sT I64)
 simp only [decide_eq_true_eq,decide_eq_false_iff_not]
 refine ⟨(),(0,0,0),(by and_intros <;> first | rfl | trivial | simp),?_⟩
 refine LoopP.count3 sm.length (fun i a b=>(a,b)=refO (pickL l sm) i) rfl fun i a b hi hJ q hq=>?_
 dsimp only
 refine ⟨fun hlt=>⟨(i:Int),(a,b,0),(by and_intros <;> first | rfl | trivial | simp),?_⟩,fun hge=>?_⟩
 ·have hil:i < sm.length:=by omega
  have hxi:=h4 _ (getD_mem0 hil)
  refine LoopP.count3 sm.length (fun k a' b'=>(a',b')=refI (pickL l sm) ((pickL l sm).getD i lotD) k (refO (pickL l sm) i)) hJ fun k a' b' hk hI q6 hq6=>?_
  have hd:∀ j,l.getD j (0,((0,0),0))=l.getD j lotD:=fun _=>rfl
  simp only [Int.toNat_natCast,hd]
  refine ⟨fun hlt2=>?_,fun hge2=>⟨by rw [InK_i64]; omega,(a',b',(i:Int) + 1),(by and_intros <;> first | rfl | trivial | simp),hq _ _ hil ?_⟩⟩
  ·have hkl:k < sm.length:=by omega
   have hxk:=h4 _ (getD_mem0 hkl)
   have hlot:∀ j:Int,0 ≤ j→j < l.length→0 ≤ (l.getD j.toNat lotD).2.1.1∧(l.getD j.toNat lotD).2.1.1 ≤ 1000∧0 ≤ (l.getD j.toNat lotD).2.1.2∧(l.getD j.toNat lotD).2.1.2 ≤ 1000:=fun j j0 j1=>by
    have hj:j.toNat < l.length:=by omega
    have:=lotOk_iff.1 (h3 _ (List.getElem_mem hj))
    rw [getD_nat hj]; omega
   have u:=hlot _ hxi.1 hxi.2
   have v:=hlot _ hxk.1 hxk.2
   have pre:0 ≤ (l.getD (sm.getD i 0).toNat lotD).2.1.1∧(l.getD (sm.getD i 0).toNat lotD).2.1.1 ≤ 1000∧0 ≤ (l.getD (sm.getD i 0).toNat lotD).2.1.2∧(l.getD (sm.getD i 0).toNat lotD).2.1.2 ≤ 1000∧0 ≤ (l.getD (sm.getD k 0).toNat lotD).2.1.1∧(l.getD (sm.getD k 0).toNat lotD).2.1.1 ≤ 1000∧0 ≤ (l.getD (sm.getD k 0).toNat lotD).2.1.2∧(l.getD (sm.getD k 0).toNat lotD).2.1.2 ≤ 1000:=⟨u.1,u.2.1,u.2.2.1,u.2.2.2,v.1,v.2.1,v.2.2.1,v.2.2.2⟩
   refine ⟨by omega,hlt,hxi.1,hxi.2,by omega,hlt2,hxk.1,hxk.2,(by and_intros <;> first | rfl | trivial | simp),⟨by omega,hlt,hxi.1,hxi.2,by omega,hlt2,hxk.1,hxk.2,(by and_intros <;> first | rfl | trivial | simp)⟩,pre,pre,by rw [InK_i64]; omega,(gmax a' (nearL (l.getD (sm.getD i 0).toNat lotD) (l.getD (sm.getD k 0).toNat lotD)),gmax b' (farL (l.getD (sm.getD i 0).toNat lotD) (l.getD (sm.getD k 0).toNat lotD)),(k:Int) + 1),(by and_intros <;> first | rfl | trivial | simp),hq6 _ _ hkl ?_⟩
   rw [refI,←hI,pickL_at hil,pickL_at hkl]
  ·have:k=sm.length:=by omega
   subst this
   rw [hI,refO,hpl]
 ·have:i=sm.length:=by omega
  subst this
  unfold refSp
  rw [←hJ]; exact (by and_intros <;> first | rfl | trivial | simp)
end Go.Proofs.Tryz
set_option linter.unusedVariables false
namespace Go.Proofs.Tryz
open Go Go.V Go.Proofs
def al_law09_ShadeSpreads:AL ((List (Int × (Int × Int) × Int)) × List Int):=(.cons (.k (.list (.pair (.i .i64) (.pair (.pair (.i .i64) (.i .i64)) (.i .i64))))) (.one (.k (.list (.i .i64)))))
def pre_law09_ShadeSpreads (d:(List (Int × (Int × Int) × Int)) × List Int):Prop:=True
def res_law09_ShadeSpreads (d:(List (Int × (Int × Int) × Int)) × List Int):SV:=.val .bo true
def obs_law09_ShadeSpreads (d:(List (Int × (Int × Int) × Int)) × List Int):List OB:=[]
def s_law09_ShadeSpreads:CSp:=mkSp al_law09_ShadeSpreads pre_law09_ShadeSpreads res_law09_ShadeSpreads obs_law09_ShadeSpreads
def vc_law09_ShadeSpreads (l:List (Int × (Int × Int) × Int)) (sm:List Int):Prop :=
 (((decide ((lI l) > (20:Int))) || (decide ((lI sm) > (20:Int))))=true →
  (True)∧(true=true∧(True))) ∧
 (((decide ((lI l) > (20:Int))) || (decide ((lI sm) > (20:Int))))=false →
  (l.length ≤ 1000)∧(sm.length ≤ 1000)∧(l.length ≤ 1000)∧(l.length ≤ 1000∧sm.length ≤ 1000)∧(l.length ≤ 1000)∧((!(l == l))=false→sm.length ≤ 1000)∧(((!(l == l)) || (!(sm == sm)))=true →
   (false=true∧(True))) ∧
  (((!(l == l)) || (!(sm == sm)))=false →
   (l.length ≤ 1000)∧(((lotsErr l) != (lotsErr l))=true →
    (false=true∧(True))) ∧
   (((lotsErr l) != (lotsErr l))=false →
    ((((lotsErr l) == (0:Int)) && ((lI sm) == (0:Int)))=true →
     ∃ (e3:Unit) (d30:Int × Int),((l=l∧sm=sm∧True∧(spreadErr l sm)=(spreadErr l sm)∧(7:Int)=d30.1∧(0:Int)=d30.2∧True)∧((((spreadSp l sm).1)=((spreadSp l sm).1)∧((spreadSp l sm).2)=((spreadSp l sm).2)∧(([]:List SV)=[]))∧True)) ∧
     LoopP (fun (d3:Int × Int) (q3:(Int × Int)→Prop) =>
      (((decide (d3.2 < (lI sm))) && (d3.1 == (0:Int)))=true →
       (0 ≤ d3.2)∧(d3.2 < (List.length sm))∧(I64 ((lI l) - (1:Int)))∧(True)∧((!(inI (gD sm d3.2 0) (0:Int) ((lI l) - (1:Int))))=true →
        (I64 (d3.2 + (1:Int)))∧(∃ d4:Int × Int,((l=l∧sm=sm∧True∧(spreadErr l sm)=(spreadErr l sm)∧(7:Int)=d4.1∧(d3.2 + (1:Int))=d4.2∧True)∧((((spreadSp l sm).1)=((spreadSp l sm).1)∧((spreadSp l sm).2)=((spreadSp l sm).2)∧(([]:List SV)=[]))∧True))∧q3 d4)) ∧
       ((!(inI (gD sm d3.2 0) (0:Int) ((lI l) - (1:Int))))=false →
        (I64 (d3.2 + (1:Int)))∧(∃ d5:Int × Int,((l=l∧sm=sm∧True∧(spreadErr l sm)=(spreadErr l sm)∧d3.1=d5.1∧(d3.2 + (1:Int))=d5.2∧True)∧((((spreadSp l sm).1)=((spreadSp l sm).1)∧((spreadSp l sm).2)=((spreadSp l sm).2)∧(([]:List SV)=[]))∧True))∧q3 d5))) ∧
      (((decide (d3.2 < (lI sm))) && (d3.1 == (0:Int)))=false →
       ∃ (e8:Unit) (d80:Int × Int),((l=l∧sm=sm∧True∧(spreadErr l sm)=(spreadErr l sm)∧d3.1=d80.1∧(0:Int)=d80.2∧True)∧((((spreadSp l sm).1)=((spreadSp l sm).1)∧((spreadSp l sm).2)=((spreadSp l sm).2)∧(([]:List SV)=[]))∧True)) ∧
       LoopP (fun (d8:Int × Int) (q8:(Int × Int)→Prop) =>
        (((decide (d8.2 < (lI sm))) && (d8.1 == (0:Int)))=true →
         ∃ (e11:Int) (d110:Int × Int),((l=l∧sm=sm∧True∧(spreadErr l sm)=(spreadErr l sm)∧d8.1=d110.1∧d8.2=e11∧(0:Int)=d110.2∧True)∧((((spreadSp l sm).1)=((spreadSp l sm).1)∧((spreadSp l sm).2)=((spreadSp l sm).2)∧(([]:List SV)=[]))∧True)) ∧
         LoopP (fun (d11:Int × Int) (q11:(Int × Int)→Prop) =>
          ((decide (d11.2 < e11))=true →
           (0 ≤ e11)∧(e11 < (List.length sm))∧(0 ≤ d11.2)∧(d11.2 < (List.length sm))∧(((gD sm e11 0) == (gD sm d11.2 0))=true →
            (I64 (d11.2 + (1:Int)))∧(∃ d12:Int × Int,((l=l∧sm=sm∧True∧(spreadErr l sm)=(spreadErr l sm)∧(6:Int)=d12.1∧e11=e11∧(d11.2 + (1:Int))=d12.2∧True)∧((((spreadSp l sm).1)=((spreadSp l sm).1)∧((spreadSp l sm).2)=((spreadSp l sm).2)∧(([]:List SV)=[]))∧True))∧q11 d12)) ∧
           (((gD sm e11 0) == (gD sm d11.2 0))=false →
            (I64 (d11.2 + (1:Int)))∧(∃ d13:Int × Int,((l=l∧sm=sm∧True∧(spreadErr l sm)=(spreadErr l sm)∧d11.1=d13.1∧e11=e11∧(d11.2 + (1:Int))=d13.2∧True)∧((((spreadSp l sm).1)=((spreadSp l sm).1)∧((spreadSp l sm).2)=((spreadSp l sm).2)∧(([]:List SV)=[]))∧True))∧q11 d13))) ∧
          ((decide (d11.2 < e11))=false →
           (I64 (e11 + (1:Int)))∧(∃ d14:Int × Int,((l=l∧sm=sm∧True∧(spreadErr l sm)=(spreadErr l sm)∧d11.1=d14.1∧(e11 + (1:Int))=d14.2∧True)∧((((spreadSp l sm).1)=((spreadSp l sm).1)∧((spreadSp l sm).2)=((spreadSp l sm).2)∧(([]:List SV)=[]))∧True))∧q8 d14))) d110) ∧
        (((decide (d8.2 < (lI sm))) && (d8.1 == (0:Int)))=false →
         ((d8.1 != (0:Int))=true →
          ((((spreadErr l sm) == d8.1) && ((((spreadSp l sm).1) == (0:Int)) && (((spreadSp l sm).2) == (0:Int))))=true→True)∧(((((spreadErr l sm) == d8.1) && ((((spreadSp l sm).1) == (0:Int)) && (((spreadSp l sm).2) == (0:Int)))) && true)=true∧(True))) ∧
         ((d8.1 != (0:Int))=false →
          (((spreadErr l sm) == (0:Int))=true→l.length ≤ 1000∧sm.length ≤ 1000∧(∀ x ∈ l,lotOk x=true)∧∀ i ∈ sm,0 ≤ i∧i < l.length)∧((((spreadErr l sm) == (0:Int)) && ((((spreadSp l sm).1) == ((refSp l sm).1)) && (((spreadSp l sm).2) == ((refSp l sm).2))))=true→True)∧(((((spreadErr l sm) == (0:Int)) && ((((spreadSp l sm).1) == ((refSp l sm).1)) && (((spreadSp l sm).2) == ((refSp l sm).2)))) && true)=true∧(True))))) d80)) d30) ∧
    ((((lotsErr l) == (0:Int)) && ((lI sm) == (0:Int)))=false →
     ∃ (e17:Unit) (d170:Int × Int),((l=l∧sm=sm∧True∧(spreadErr l sm)=(spreadErr l sm)∧(lotsErr l)=d170.1∧(0:Int)=d170.2∧True)∧((((spreadSp l sm).1)=((spreadSp l sm).1)∧((spreadSp l sm).2)=((spreadSp l sm).2)∧(([]:List SV)=[]))∧True)) ∧
     LoopP (fun (d17:Int × Int) (q17:(Int × Int)→Prop) =>
      (((decide (d17.2 < (lI sm))) && (d17.1 == (0:Int)))=true →
       (0 ≤ d17.2)∧(d17.2 < (List.length sm))∧(I64 ((lI l) - (1:Int)))∧(True)∧((!(inI (gD sm d17.2 0) (0:Int) ((lI l) - (1:Int))))=true →
        (I64 (d17.2 + (1:Int)))∧(∃ d18:Int × Int,((l=l∧sm=sm∧True∧(spreadErr l sm)=(spreadErr l sm)∧(7:Int)=d18.1∧(d17.2 + (1:Int))=d18.2∧True)∧((((spreadSp l sm).1)=((spreadSp l sm).1)∧((spreadSp l sm).2)=((spreadSp l sm).2)∧(([]:List SV)=[]))∧True))∧q17 d18)) ∧
       ((!(inI (gD sm d17.2 0) (0:Int) ((lI l) - (1:Int))))=false →
        (I64 (d17.2 + (1:Int)))∧(∃ d19:Int × Int,((l=l∧sm=sm∧True∧(spreadErr l sm)=(spreadErr l sm)∧d17.1=d19.1∧(d17.2 + (1:Int))=d19.2∧True)∧((((spreadSp l sm).1)=((spreadSp l sm).1)∧((spreadSp l sm).2)=((spreadSp l sm).2)∧(([]:List SV)=[]))∧True))∧q17 d19))) ∧
      (((decide (d17.2 < (lI sm))) && (d17.1 == (0:Int)))=false →
       ∃ (e22:Unit) (d220:Int × Int),((l=l∧sm=sm∧True∧(spreadErr l sm)=(spreadErr l sm)∧d17.1=d220.1∧(0:Int)=d220.2∧True)∧((((spreadSp l sm).1)=((spreadSp l sm).1)∧((spreadSp l sm).2)=((spreadSp l sm).2)∧(([]:List SV)=[]))∧True)) ∧
       LoopP (fun (d22:Int × Int) (q22:(Int × Int)→Prop) =>
        (((decide (d22.2 < (lI sm))) && (d22.1 == (0:Int)))=true →
         ∃ (e25:Int) (d250:Int × Int),((l=l∧sm=sm∧True∧(spreadErr l sm)=(spreadErr l sm)∧d22.1=d250.1∧d22.2=e25∧(0:Int)=d250.2∧True)∧((((spreadSp l sm).1)=((spreadSp l sm).1)∧((spreadSp l sm).2)=((spreadSp l sm).2)∧(([]:List SV)=[]))∧True)) ∧
         LoopP (fun (d25:Int × Int) (q25:(Int × Int)→Prop) =>
          ((decide (d25.2 < e25))=true →
           (0 ≤ e25)∧(e25 < (List.length sm))∧(0 ≤ d25.2)∧(d25.2 < (List.length sm))∧(((gD sm e25 0) == (gD sm d25.2 0))=true →
            (I64 (d25.2 + (1:Int)))∧(∃ d26:Int × Int,((l=l∧sm=sm∧True∧(spreadErr l sm)=(spreadErr l sm)∧(6:Int)=d26.1∧e25=e25∧(d25.2 + (1:Int))=d26.2∧True)∧((((spreadSp l sm).1)=((spreadSp l sm).1)∧((spreadSp l sm).2)=((spreadSp l sm).2)∧(([]:List SV)=[]))∧True))∧q25 d26)) ∧
           (((gD sm e25 0) == (gD sm d25.2 0))=false →
            (I64 (d25.2 + (1:Int)))∧(∃ d27:Int × Int,((l=l∧sm=sm∧True∧(spreadErr l sm)=(spreadErr l sm)∧d25.1=d27.1∧e25=e25∧(d25.2 + (1:Int))=d27.2∧True)∧((((spreadSp l sm).1)=((spreadSp l sm).1)∧((spreadSp l sm).2)=((spreadSp l sm).2)∧(([]:List SV)=[]))∧True))∧q25 d27))) ∧
          ((decide (d25.2 < e25))=false →
           (I64 (e25 + (1:Int)))∧(∃ d28:Int × Int,((l=l∧sm=sm∧True∧(spreadErr l sm)=(spreadErr l sm)∧d25.1=d28.1∧(e25 + (1:Int))=d28.2∧True)∧((((spreadSp l sm).1)=((spreadSp l sm).1)∧((spreadSp l sm).2)=((spreadSp l sm).2)∧(([]:List SV)=[]))∧True))∧q22 d28))) d250) ∧
        (((decide (d22.2 < (lI sm))) && (d22.1 == (0:Int)))=false →
         ((d22.1 != (0:Int))=true →
          ((((spreadErr l sm) == d22.1) && ((((spreadSp l sm).1) == (0:Int)) && (((spreadSp l sm).2) == (0:Int))))=true→True)∧(((((spreadErr l sm) == d22.1) && ((((spreadSp l sm).1) == (0:Int)) && (((spreadSp l sm).2) == (0:Int)))) && true)=true∧(True))) ∧
         ((d22.1 != (0:Int))=false →
          (((spreadErr l sm) == (0:Int))=true→l.length ≤ 1000∧sm.length ≤ 1000∧(∀ x ∈ l,lotOk x=true)∧∀ i ∈ sm,0 ≤ i∧i < l.length)∧((((spreadErr l sm) == (0:Int)) && ((((spreadSp l sm).1) == ((refSp l sm).1)) && (((spreadSp l sm).2) == ((refSp l sm).2))))=true→True)∧(((((spreadErr l sm) == (0:Int)) && ((((spreadSp l sm).1) == ((refSp l sm).1)) && (((spreadSp l sm).2) == ((refSp l sm).2)))) && true)=true∧(True))))) d220)) d170))))
def cx_law09_ShadeSpreads:Cx:=⟨[],[(6,s_law09_known),(7,s_law09_own),(8,s_law09_ints),(9,s_shade_Check),(10,s_shade_Spread),(11,s_law09_same),(12,s_ref09_Same),(13,s_ref09_Check),(14,s_ref09_In),(15,s_ref09_Spread)],125,[],0,[],[],[],[],false,[],[],[]⟩
def lp_law09_ShadeSpreads (l:List (Int × (Int × Int) × Int)) (sm:List Int):List (Nat × LoopAnn):=[(0,⟨Unit,Int × Int,[0,1,8,9,10,11],fun e x=>[.val (.list (.pair (.i .i64) (.pair (.pair (.i .i64) (.i .i64)) (.i .i64)))) l,.val (.list (.i .i64)) sm,.box 8 0,.val (.i .i64) (spreadErr l sm),.val (.i .i64) x.1,.val (.i .i64) x.2],fun e x=>[(8,.slot 8,.cells [.val (.i .i64) ((spreadSp l sm).1),.val (.i .i64) ((spreadSp l sm).2)] (some 30))]⟩),
 (2,⟨Unit,Int × Int,[0,1,8,9,10,12],fun e x=>[.val (.list (.pair (.i .i64) (.pair (.pair (.i .i64) (.i .i64)) (.i .i64)))) l,.val (.list (.i .i64)) sm,.box 8 0,.val (.i .i64) (spreadErr l sm),.val (.i .i64) x.1,.val (.i .i64) x.2],fun e x=>[(8,.slot 8,.cells [.val (.i .i64) ((spreadSp l sm).1),.val (.i .i64) ((spreadSp l sm).2)] (some 30))]⟩),
 (4,⟨Int,Int × Int,[0,1,8,9,10,12,13],fun e x=>[.val (.list (.pair (.i .i64) (.pair (.pair (.i .i64) (.i .i64)) (.i .i64)))) l,.val (.list (.i .i64)) sm,.box 8 0,.val (.i .i64) (spreadErr l sm),.val (.i .i64) x.1,.val (.i .i64) e,.val (.i .i64) x.2],fun e x=>[(8,.slot 8,.cells [.val (.i .i64) ((spreadSp l sm).1),.val (.i .i64) ((spreadSp l sm).2)] (some 30))]⟩)]
set_option maxRecDepth 100000 in
theorem vq_law09_ShadeSpreads (d:(List (Int × (Int × Int) × Int)) × List Int):gwp (cx_law09_ShadeSpreads) (lp_law09_ShadeSpreads d.1 d.2) c3 0 (gend [.tmp 4] (res_law09_ShadeSpreads d) (obs_law09_ShadeSpreads d)) (gstart 125 (AL.can al_law09_ShadeSpreads d))=vc_law09_ShadeSpreads d.1 d.2:=by kernel_rfl
abbrev Ok_law09_ShadeSpreads:Prop:=OkC Tryz.prog 3 s_law09_ShadeSpreads
theorem mk_law09_ShadeSpreads (h:∀ (l:List (Int × (Int × Int) × Int)) (sm:List Int),(True)→vc_law09_ShadeSpreads l sm):OkC Tryz.prog 3 s_law09_ShadeSpreads :=
 okC_vc fun3 mixed (C:=cx_law09_ShadeSpreads) (V:=fun (d:(List (Int × (Int × Int) × Int)) × List Int)=>vc_law09_ShadeSpreads d.1 d.2) ⟨(.cons ok_law09_known (.cons ok_law09_own (.cons ok_law09_ints (.cons ok_shade_Check (.cons ok_shade_Spread (.cons ok_law09_same (.cons ok_ref09_Same (.cons ok_ref09_Check (.cons ok_ref09_In (.cons ok_ref09_Spread .nil)))))))))),XsOk.nil,ItsOk.nil,YlOk.nil,IysOk.nil⟩ (vq_law09_ShadeSpreads) fun d hp=>h d.1 d.2 hp
end Go.Proofs.Tryz
set_option linter.unusedVariables false
namespace Go.Proofs.Tryz
open Go Go.V Go.Proofs
theorem ok_law09_ShadeSpreads:Ok_law09_ShadeSpreads:=mk_law09_ShadeSpreads fun l sm _=>by
 unfold vc_law09_ShadeSpreads; (try delta lI gD sT I64)
 simp only [decide_eq_true_eq,decide_eq_false_iff_not]
 refine ⟨fun _=>(by and_intros <;> first | rfl | trivial | simp),fun hle=>?_⟩
 simp only [Bool.or_eq_false_iff,decide_eq_false_iff_not] at hle
 have hE:lotsErr l ≠ 0→spreadErr l sm=lotsErr l:=fun h=>by unfold spreadErr; rw [if_pos h]
 refine ⟨by omega,by omega,by omega,⟨by omega,by omega⟩,by omega,fun _=>by omega,(fun h=>by simp at h),fun _=>⟨by omega,(fun h=>by simp at h),fun _=>⟨fun a=>⟨(),(7,0),(by and_intros <;> first | rfl | trivial | simp),?_⟩,fun a=>⟨(),(lotsErr l,0),(by and_intros <;> first | rfl | trivial | simp),?_⟩⟩⟩⟩
 ·simp only [Bool.and_eq_true,beq_iff_eq] at a
  have H0:((7:Int) ≠ 0→spreadErr l sm=7)∧((7:Int)=0→lotsErr l=0∧sm ≠ []):=⟨fun _=>by
   unfold spreadErr; rw [if_neg (by omega),if_pos (.inl (List.length_eq_zero_iff.1 (by omega)))],fun h=>by cases h⟩
  refine ⟨fun d=>0 ≤ d.2∧d.2 ≤ sm.length∧(d.1 ≠ 0→spreadErr l sm=d.1)∧(d.1=0→lotsErr l=0∧sm ≠ []∧∀ j:Nat,(j:Int) < d.2→inI (sm.getD j 0) 0 ((l.length:Int) - 1)=true),fun d=>((sm.length:Int) - d.2).toNat,⟨by dsimp only; omega,by dsimp only; omega,H0.1,fun h=>⟨(H0.2 h).1,(H0.2 h).2,fun j hj=>by dsimp only at hj; omega⟩⟩,?_⟩
  rintro ⟨w,i⟩ ⟨i1,i2,i3,i4⟩
  dsimp only at i1 i2 i3 i4 ⊢
  obtain ⟨i,rfl⟩:=Int.eq_ofNat_of_zero_le i1
  simp only [Int.toNat_natCast,Bool.and_eq_true,decide_eq_true_eq,beq_iff_eq]
  refine ⟨fun hc=>?_,fun hc=>?_⟩
  ·obtain ⟨hil,rfl⟩:=hc
   obtain ⟨k1,k2,k3⟩:=i4 rfl
   refine ⟨by omega,hil,by rw [InK_i64]; omega,trivial,fun hx=>⟨by rw [InK_i64]; omega,(7,(i:Int) + 1),(by and_intros <;> first | rfl | trivial | simp),⟨by dsimp only; omega,by dsimp only; omega,fun _=>?_,fun h=>by cases h⟩,by dsimp only; omega⟩,fun hx=>⟨by rw [InK_i64]; omega,(0,(i:Int) + 1),(by and_intros <;> first | rfl | trivial | simp),⟨by dsimp only; omega,by dsimp only; omega,fun h=>(h rfl).elim,fun _=>⟨k1,k2,fun j hj=>?_⟩⟩,by dsimp only; omega⟩⟩
   ·unfold spreadErr; rw [if_neg (by omega),if_pos (.inr (List.any_eq_true.2 ⟨_,getD_mem0 (show i < sm.length by omega),hx⟩))]
   ·dsimp only at hj
    by_cases h6:j=i
    ·subst h6; simpa using hx
    ·exact k3 j (by omega)
  ·have hc:¬ ((i:Int) < sm.length∧w=0):=by
    intro h
    rw [Bool.and_eq_false_iff] at hc
    rcases hc with hc | hc
    ·rw [decide_eq_true h.1] at hc; cases hc
    ·rw [h.2] at hc; cases hc
   refine ⟨(),(w,0),(by and_intros <;> first | rfl | trivial | simp),?_⟩
   refine ⟨fun d=>0 ≤ d.2∧d.2 ≤ sm.length∧(d.1 ≠ 0→spreadErr l sm=d.1)∧(d.1=0→lotsErr l=0∧sm ≠ []∧(∀ x ∈ sm,inI x 0 ((l.length:Int) - 1)=true)∧∀ j:Nat,(j:Int) < d.2→sm.getD j 0 ∉ sm.take j),fun d=>((sm.length:Int) - d.2).toNat,⟨by dsimp only; omega,by dsimp only; omega,i3,fun h=>?_⟩,?_⟩
   ·dsimp only at h
    obtain ⟨k1,k2,k3⟩:=i4 h
    refine ⟨k1,k2,fun x hx=>?_,fun j hj=>by dsimp only at hj; omega⟩
    obtain ⟨j,hj,rfl⟩:=List.getElem_of_mem hx
    have:=k3 j (by have:¬ (i:Int) < sm.length:=fun h2=>hc ⟨h2,h⟩; omega)
    rwa [getD_nat hj] at this
   rintro ⟨w2,n⟩ ⟨n1,n2,n3,n4⟩
   dsimp only at n1 n2 n3 n4 ⊢
   obtain ⟨n,rfl⟩:=Int.eq_ofNat_of_zero_le n1
   (try simp only [Int.toNat_natCast,Bool.and_eq_true,decide_eq_true_eq,beq_iff_eq])
   refine ⟨fun hc2=>?_,fun hc2=>?_⟩
   ·obtain ⟨hnl,rfl⟩:=hc2
    obtain ⟨k1,k2,k3,k4⟩:=n4 rfl
    have hnl':n < sm.length:=by omega
    refine ⟨(n:Int),(0,0),(by and_intros <;> first | rfl | trivial | simp),?_⟩
    refine ⟨fun d=>0 ≤ d.2∧d.2 ≤ n∧((d.1=0∧∀ m:Nat,(m:Int) < d.2→sm.getD n 0 ≠ sm.getD m 0) ∨ (d.1=6∧∃ m:Nat,m < n∧sm.getD n 0=sm.getD m 0)),fun d=>((n:Int) - d.2).toNat,⟨by dsimp only; omega,by dsimp only; omega,.inl ⟨rfl,fun m hm=>by dsimp only at hm; omega⟩⟩,?_⟩
    rintro ⟨w3,k⟩ ⟨m1,m2,m3⟩
    dsimp only at m1 m2 m3 ⊢
    obtain ⟨k,rfl⟩:=Int.eq_ofNat_of_zero_le m1
    (try simp only [Int.toNat_natCast])
    refine ⟨fun hlt=>⟨by omega,hnl,by omega,by omega,fun hx=>⟨by rw [InK_i64]; omega,(6,(k:Int) + 1),(by and_intros <;> first | rfl | trivial | simp),⟨by dsimp only; omega,by dsimp only; omega,.inr ⟨rfl,k,by omega,by first | exact hx | exact eq_of_beq hx⟩⟩,by dsimp only; omega⟩,fun hx=>⟨by rw [InK_i64]; omega,(w3,(k:Int) + 1),(by and_intros <;> first | rfl | trivial | simp),⟨by dsimp only; omega,by dsimp only; omega,?_⟩,by dsimp only; omega⟩⟩,fun hge=>⟨by rw [InK_i64]; omega,(w3,(n:Int) + 1),(by and_intros <;> first | rfl | trivial | simp),⟨by dsimp only; omega,by dsimp only; omega,fun h=>?_,fun h=>⟨k1,k2,k3,fun j hj=>?_⟩⟩,by dsimp only; omega⟩⟩
    ·rcases m3 with ⟨a,b⟩ | ⟨a,b⟩
     ·refine .inl ⟨a,fun m hm=>?_⟩
      dsimp only at hm
      by_cases h6:m=k
      ·subst h6; simpa using hx
      ·exact b m (by omega)
     ·exact .inr ⟨a,b⟩
    ·dsimp only at h ⊢
     rcases m3 with ⟨a,b⟩ | ⟨a,m,hm,b⟩
     ·exact (h a).elim
     ·have hd:dupL sm=true:=List.any_eq_true.2 ⟨n,List.mem_range.2 hnl',decide_eq_true (by
       rw [b,getD_nat (by omega)]
       exact List.mem_take_iff_getElem.2 ⟨m,by omega,rfl⟩)⟩
      unfold spreadErr
      rw [if_neg (by omega),if_neg,if_pos hd,a]
      rintro (h9 | h9)
      ·exact k2 h9
      ·obtain ⟨x,hx,hx2⟩:=List.any_eq_true.1 h9
       rw [k3 x hx] at hx2; cases hx2
    ·dsimp only at h hj
     rcases m3 with ⟨a,b⟩ | ⟨a,b⟩
     ·by_cases h6:j=n
      ·subst h6
       intro h9
       obtain ⟨m,hm,hm2⟩:=List.mem_take_iff_getElem.1 h9
       have:=b m (by omega)
       rw [getD_nat (show m < sm.length by omega)] at this
       exact this hm2.symm
      ·exact k4 j (by omega)
     ·omega
   ·have hc2:¬ ((n:Int) < sm.length∧w2=0):=by
     intro h
     rw [Bool.and_eq_false_iff] at hc2
     rcases hc2 with hc2 | hc2
     ·rw [decide_eq_true h.1] at hc2; cases hc2
     ·rw [h.2] at hc2; cases hc2
    refine ⟨fun h=>?_,fun h=>?_⟩
    ·have h0:w2 ≠ 0:=by simpa using h
     have h1:=n3 h0
     have h2:spreadSp l sm=(0,0):=by unfold spreadSp; rw [h1,if_neg h0]
     rw [h1,h2]
     simp
    ·have h0:w2=0:=by simpa using h
     obtain ⟨k1,k2,k3,k4⟩:=n4 h0
     have hnn:n=sm.length:=by have:¬ (n:Int) < sm.length:=fun h2=>hc2 ⟨h2,h0⟩; omega
     have hd:dupL sm=false:=by
      rw [dupL,List.any_eq_false]
      intro j hj
      simpa using k4 j (by have:=List.mem_range.1 hj; omega)
     have h1:spreadErr l sm=0:=by
      unfold spreadErr
      rw [if_neg (by omega),if_neg,hd]
      ·rfl
      ·rintro (h9 | h9)
       ·exact k2 h9
       ·obtain ⟨x,hx,hx2⟩:=List.any_eq_true.1 h9
        rw [k3 x hx] at hx2; cases hx2
     obtain ⟨l1,l2⟩:=lots_zero k1
     have hr:∀ x ∈ sm,0 ≤ x∧x < (l.length:Int):=fun x hx=>by
      have:=k3 x hx
      simp only [inI,Bool.and_eq_true,decide_eq_true_eq] at this; omega
     have h2:spreadSp l sm=refSp l sm:=by
      unfold spreadSp refSp
      rw [if_pos h1,spread_law (by simpa [pickL] using k2) fun i hi=>by
       have hm:(pickL l sm).getD i lotD ∈ pickL l sm:=by rw [getD_nat hi]; exact List.getElem_mem hi
       exact (lotOk_iff.1 (pickL_ok l2 hr _ hm)).2.2.2.1]
      simp [pickL]
     rw [h1,h2]
     refine ⟨fun _=>⟨by omega,by omega,l2,hr⟩,fun _=>trivial,by simp,trivial⟩
 ·have H0:(lotsErr l ≠ 0→spreadErr l sm=lotsErr l)∧(lotsErr l=0→lotsErr l=0∧sm ≠ []):=⟨hE,fun h=>⟨h,fun h2=>by rw [h,h2] at a; simp at a⟩⟩
  refine ⟨fun d=>0 ≤ d.2∧d.2 ≤ sm.length∧(d.1 ≠ 0→spreadErr l sm=d.1)∧(d.1=0→lotsErr l=0∧sm ≠ []∧∀ j:Nat,(j:Int) < d.2→inI (sm.getD j 0) 0 ((l.length:Int) - 1)=true),fun d=>((sm.length:Int) - d.2).toNat,⟨by dsimp only; omega,by dsimp only; omega,H0.1,fun h=>⟨(H0.2 h).1,(H0.2 h).2,fun j hj=>by dsimp only at hj; omega⟩⟩,?_⟩
  rintro ⟨w,i⟩ ⟨i1,i2,i3,i4⟩
  dsimp only at i1 i2 i3 i4 ⊢
  obtain ⟨i,rfl⟩:=Int.eq_ofNat_of_zero_le i1
  simp only [Int.toNat_natCast,Bool.and_eq_true,decide_eq_true_eq,beq_iff_eq]
  refine ⟨fun hc=>?_,fun hc=>?_⟩
  ·obtain ⟨hil,rfl⟩:=hc
   obtain ⟨k1,k2,k3⟩:=i4 rfl
   refine ⟨by omega,hil,by rw [InK_i64]; omega,trivial,fun hx=>⟨by rw [InK_i64]; omega,(7,(i:Int) + 1),(by and_intros <;> first | rfl | trivial | simp),⟨by dsimp only; omega,by dsimp only; omega,fun _=>?_,fun h=>by cases h⟩,by dsimp only; omega⟩,fun hx=>⟨by rw [InK_i64]; omega,(0,(i:Int) + 1),(by and_intros <;> first | rfl | trivial | simp),⟨by dsimp only; omega,by dsimp only; omega,fun h=>(h rfl).elim,fun _=>⟨k1,k2,fun j hj=>?_⟩⟩,by dsimp only; omega⟩⟩
   ·unfold spreadErr; rw [if_neg (by omega),if_pos (.inr (List.any_eq_true.2 ⟨_,getD_mem0 (show i < sm.length by omega),hx⟩))]
   ·dsimp only at hj
    by_cases h6:j=i
    ·subst h6; simpa using hx
    ·exact k3 j (by omega)
  ·have hc:¬ ((i:Int) < sm.length∧w=0):=by
    intro h
    rw [Bool.and_eq_false_iff] at hc
    rcases hc with hc | hc
    ·rw [decide_eq_true h.1] at hc; cases hc
    ·rw [h.2] at hc; cases hc
   refine ⟨(),(w,0),(by and_intros <;> first | rfl | trivial | simp),?_⟩
   refine ⟨fun d=>0 ≤ d.2∧d.2 ≤ sm.length∧(d.1 ≠ 0→spreadErr l sm=d.1)∧(d.1=0→lotsErr l=0∧sm ≠ []∧(∀ x ∈ sm,inI x 0 ((l.length:Int) - 1)=true)∧∀ j:Nat,(j:Int) < d.2→sm.getD j 0 ∉ sm.take j),fun d=>((sm.length:Int) - d.2).toNat,⟨by dsimp only; omega,by dsimp only; omega,i3,fun h=>?_⟩,?_⟩
   ·dsimp only at h
    obtain ⟨k1,k2,k3⟩:=i4 h
    refine ⟨k1,k2,fun x hx=>?_,fun j hj=>by dsimp only at hj; omega⟩
    obtain ⟨j,hj,rfl⟩:=List.getElem_of_mem hx
    have:=k3 j (by have:¬ (i:Int) < sm.length:=fun h2=>hc ⟨h2,h⟩; omega)
    rwa [getD_nat hj] at this
   rintro ⟨w2,n⟩ ⟨n1,n2,n3,n4⟩
   dsimp only at n1 n2 n3 n4 ⊢
   obtain ⟨n,rfl⟩:=Int.eq_ofNat_of_zero_le n1
   (try simp only [Int.toNat_natCast,Bool.and_eq_true,decide_eq_true_eq,beq_iff_eq])
   refine ⟨fun hc2=>?_,fun hc2=>?_⟩
   ·obtain ⟨hnl,rfl⟩:=hc2
    obtain ⟨k1,k2,k3,k4⟩:=n4 rfl
    have hnl':n < sm.length:=by omega
    refine ⟨(n:Int),(0,0),(by and_intros <;> first | rfl | trivial | simp),?_⟩
    refine ⟨fun d=>0 ≤ d.2∧d.2 ≤ n∧((d.1=0∧∀ m:Nat,(m:Int) < d.2→sm.getD n 0 ≠ sm.getD m 0) ∨ (d.1=6∧∃ m:Nat,m < n∧sm.getD n 0=sm.getD m 0)),fun d=>((n:Int) - d.2).toNat,⟨by dsimp only; omega,by dsimp only; omega,.inl ⟨rfl,fun m hm=>by dsimp only at hm; omega⟩⟩,?_⟩
    rintro ⟨w3,k⟩ ⟨m1,m2,m3⟩
    dsimp only at m1 m2 m3 ⊢
    obtain ⟨k,rfl⟩:=Int.eq_ofNat_of_zero_le m1
    (try simp only [Int.toNat_natCast])
    refine ⟨fun hlt=>⟨by omega,hnl,by omega,by omega,fun hx=>⟨by rw [InK_i64]; omega,(6,(k:Int) + 1),(by and_intros <;> first | rfl | trivial | simp),⟨by dsimp only; omega,by dsimp only; omega,.inr ⟨rfl,k,by omega,by first | exact hx | exact eq_of_beq hx⟩⟩,by dsimp only; omega⟩,fun hx=>⟨by rw [InK_i64]; omega,(w3,(k:Int) + 1),(by and_intros <;> first | rfl | trivial | simp),⟨by dsimp only; omega,by dsimp only; omega,?_⟩,by dsimp only; omega⟩⟩,fun hge=>⟨by rw [InK_i64]; omega,(w3,(n:Int) + 1),(by and_intros <;> first | rfl | trivial | simp),⟨by dsimp only; omega,by dsimp only; omega,fun h=>?_,fun h=>⟨k1,k2,k3,fun j hj=>?_⟩⟩,by dsimp only; omega⟩⟩
    ·rcases m3 with ⟨a,b⟩ | ⟨a,b⟩
     ·refine .inl ⟨a,fun m hm=>?_⟩
      dsimp only at hm
      by_cases h6:m=k
      ·subst h6; simpa using hx
      ·exact b m (by omega)
     ·exact .inr ⟨a,b⟩
    ·dsimp only at h ⊢
     rcases m3 with ⟨a,b⟩ | ⟨a,m,hm,b⟩
     ·exact (h a).elim
     ·have hd:dupL sm=true:=List.any_eq_true.2 ⟨n,List.mem_range.2 hnl',decide_eq_true (by
       rw [b,getD_nat (by omega)]
       exact List.mem_take_iff_getElem.2 ⟨m,by omega,rfl⟩)⟩
      unfold spreadErr
      rw [if_neg (by omega),if_neg,if_pos hd,a]
      rintro (h9 | h9)
      ·exact k2 h9
      ·obtain ⟨x,hx,hx2⟩:=List.any_eq_true.1 h9
       rw [k3 x hx] at hx2; cases hx2
    ·dsimp only at h hj
     rcases m3 with ⟨a,b⟩ | ⟨a,b⟩
     ·by_cases h6:j=n
      ·subst h6
       intro h9
       obtain ⟨m,hm,hm2⟩:=List.mem_take_iff_getElem.1 h9
       have:=b m (by omega)
       rw [getD_nat (show m < sm.length by omega)] at this
       exact this hm2.symm
      ·exact k4 j (by omega)
     ·omega
   ·have hc2:¬ ((n:Int) < sm.length∧w2=0):=by
     intro h
     rw [Bool.and_eq_false_iff] at hc2
     rcases hc2 with hc2 | hc2
     ·rw [decide_eq_true h.1] at hc2; cases hc2
     ·rw [h.2] at hc2; cases hc2
    refine ⟨fun h=>?_,fun h=>?_⟩
    ·have h0:w2 ≠ 0:=by simpa using h
     have h1:=n3 h0
     have h2:spreadSp l sm=(0,0):=by unfold spreadSp; rw [h1,if_neg h0]
     rw [h1,h2]
     simp
    ·have h0:w2=0:=by simpa using h
     obtain ⟨k1,k2,k3,k4⟩:=n4 h0
     have hnn:n=sm.length:=by have:¬ (n:Int) < sm.length:=fun h2=>hc2 ⟨h2,h0⟩; omega
     have hd:dupL sm=false:=by
      rw [dupL,List.any_eq_false]
      intro j hj
      simpa using k4 j (by have:=List.mem_range.1 hj; omega)
     have h1:spreadErr l sm=0:=by
      unfold spreadErr
      rw [if_neg (by omega),if_neg,hd]
      ·rfl
      ·rintro (h9 | h9)
       ·exact k2 h9
       ·obtain ⟨x,hx,hx2⟩:=List.any_eq_true.1 h9
        rw [k3 x hx] at hx2; cases hx2
     obtain ⟨l1,l2⟩:=lots_zero k1
     have hr:∀ x ∈ sm,0 ≤ x∧x < (l.length:Int):=fun x hx=>by
      have:=k3 x hx
      simp only [inI,Bool.and_eq_true,decide_eq_true_eq] at this; omega
     have h2:spreadSp l sm=refSp l sm:=by
      unfold spreadSp refSp
      rw [if_pos h1,spread_law (by simpa [pickL] using k2) fun i hi=>by
       have hm:(pickL l sm).getD i lotD ∈ pickL l sm:=by rw [getD_nat hi]; exact List.getElem_mem hi
       exact (lotOk_iff.1 (pickL_ok l2 hr _ hm)).2.2.2.1]
      simp [pickL]
     rw [h1,h2]
     refine ⟨fun _=>⟨by omega,by omega,l2,hr⟩,fun _=>trivial,by simp,trivial⟩
end Go.Proofs.Tryz