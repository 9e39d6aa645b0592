/- A framework for walks, contracts of functions, and their proofs: part 6. -/
import Derived.Test.YtohogbdobpnkpaaGreatDoorR5
set_option linter.unusedVariables false
namespace Go.Proofs.Tryz
open Go Go.V Go.Proofs
def al_shade_isLot:AL (Int × Int × Int × Int):=(.one (.agg (.cons (.k (.i .i64)) (.cons (.k (.i .i64)) (.cons (.k (.i .i64)) (.one (.k (.i .i64))))))))
def pre_shade_isLot (d:Int × Int × Int × Int):Prop:=True
def res_shade_isLot (d:Int × Int × Int × Int):SV:=.val .bo (lotOk (d.1,(d.2.1,d.2.2.1),d.2.2.2))
def obs_shade_isLot (d:Int × Int × Int × Int):List OB:=[]
def s_shade_isLot:CSp:=mkSp al_shade_isLot pre_shade_isLot res_shade_isLot obs_shade_isLot
def vc_shade_isLot (lc:Int) (lo:Int) (hi:Int) (lg:Int):Prop :=
 ([lc].length ≤ 1000000)∧((!([lc].any fun n=>decide (n < (0:Int)) || decide ((9:Int) < n)))=true→True)∧((!([lc].any fun n=>decide (n < (0:Int)) || decide ((9:Int) < n)))=true→[lo,hi].length ≤ 1000000)∧((((!([lc].any fun n=>decide (n < (0:Int)) || decide ((9:Int) < n))) && (!([lo,hi].any fun n=>decide (n < (0:Int)) || decide ((1000:Int) < n)))) && (decide (lo ≤ hi)))=true→True)∧((((!([lc].any fun n=>decide (n < (0:Int)) || decide ((9:Int) < n))) && (!([lo,hi].any fun n=>decide (n < (0:Int)) || decide ((1000:Int) < n)))) && (decide (lo ≤ hi)))=true→[lg].length ≤ 1000000)∧(((((!([lc].any fun n=>decide (n < (0:Int)) || decide ((9:Int) < n))) && (!([lo,hi].any fun n=>decide (n < (0:Int)) || decide ((1000:Int) < n)))) && (decide (lo ≤ hi))) && (!([lg].any fun n=>decide (n < (1:Int)) || decide ((1000000:Int) < n))))=(lotOk (lc,(lo,hi),lg))∧(True))
def cx_shade_isLot:Cx:=⟨[(3,(.i .i64))],[(61,s_shade_within)],32,[],0,[],[],[],[],false,[],[],[]⟩
def lp_shade_isLot (lc:Int) (lo:Int) (hi:Int) (lg:Int):List (Nat × LoopAnn):=[]
set_option maxRecDepth 100000 in
theorem vq_shade_isLot (d:Int × Int × Int × Int):gwp (cx_shade_isLot) (lp_shade_isLot d.1 d.2.1 d.2.2.1 d.2.2.2) c92 0 (gend [.tmp 2] (res_shade_isLot d) (obs_shade_isLot d)) (gstart 32 (AL.can al_shade_isLot d))=vc_shade_isLot d.1 d.2.1 d.2.2.1 d.2.2.2:=by kernel_rfl
abbrev Ok_shade_isLot:Prop:=OkC Tryz.prog 92 s_shade_isLot
theorem mk_shade_isLot (h:∀ (lc:Int) (lo:Int) (hi:Int) (lg:Int),(True)→vc_shade_isLot lc lo hi lg):OkC Tryz.prog 92 s_shade_isLot :=
 okC_vc fun92 mixed (C:=cx_shade_isLot) (V:=fun (d:Int × Int × Int × Int)=>vc_shade_isLot d.1 d.2.1 d.2.2.1 d.2.2.2) ⟨(.cons ok_shade_within .nil),XsOk.nil,ItsOk.nil,YlOk.nil,IysOk.nil⟩ (vq_shade_isLot) fun d hp=>h d.1 d.2.1 d.2.2.1 d.2.2.2 hp
theorem ok_shade_isLot:Ok_shade_isLot:=mk_shade_isLot fun lc lo hi lg _=>by
 unfold vc_shade_isLot; (try delta lI gD sT I64)
 have e:∀ n a b:Int,(decide (n < a) || decide (b < n))=!inI n a b:=fun n a b=>(nI n a b).symm
 simp only [List.any_cons,List.any_nil,Bool.or_false,e,Bool.not_not,List.length_cons,List.length_nil,Bool.not_or]
 refine ⟨by omega,fun _=>trivial,fun _=>by omega,fun _=>trivial,fun _=>by omega,?_⟩
 and_intros <;> first | rfl | trivial
def al_shade_Check_1:AL (Int × Int × Int × Int):=(.one (.agg (.cons (.k (.i .i64)) (.cons (.k (.i .i64)) (.cons (.k (.i .i64)) (.one (.k (.i .i64))))))))
def pre_shade_Check_1 (d:Int × Int × Int × Int):Prop:=True
def res_shade_Check_1 (d:Int × Int × Int × Int):SV:=.val .bo (!lotOk (d.1,(d.2.1,d.2.2.1),d.2.2.2))
def obs_shade_Check_1 (d:Int × Int × Int × Int):List OB:=[]
def s_shade_Check_1:CSp:=mkSp al_shade_Check_1 pre_shade_Check_1 res_shade_Check_1 obs_shade_Check_1
def vc_shade_Check_1 (lc:Int) (lo:Int) (hi:Int) (lg:Int):Prop :=
 (True)∧((!(lotOk (lc,(lo,hi),lg)))=(!lotOk (lc,(lo,hi),lg))∧(True))
def cx_shade_Check_1:Cx:=⟨[],[(92,s_shade_isLot)],6,[],0,[],[],[],[],false,[],[],[]⟩
def lp_shade_Check_1 (lc:Int) (lo:Int) (hi:Int) (lg:Int):List (Nat × LoopAnn):=[]
set_option maxRecDepth 100000 in
theorem vq_shade_Check_1 (d:Int × Int × Int × Int):gwp (cx_shade_Check_1) (lp_shade_Check_1 d.1 d.2.1 d.2.2.1 d.2.2.2) c91 0 (gend [.tmp 2] (res_shade_Check_1 d) (obs_shade_Check_1 d)) (gstart 6 (AL.can al_shade_Check_1 d))=vc_shade_Check_1 d.1 d.2.1 d.2.2.1 d.2.2.2:=by kernel_rfl
abbrev Ok_shade_Check_1:Prop:=OkC Tryz.prog 91 s_shade_Check_1
theorem mk_shade_Check_1 (h:∀ (lc:Int) (lo:Int) (hi:Int) (lg:Int),(True)→vc_shade_Check_1 lc lo hi lg):OkC Tryz.prog 91 s_shade_Check_1 :=
 okC_vc fun91 mixed (C:=cx_shade_Check_1) (V:=fun (d:Int × Int × Int × Int)=>vc_shade_Check_1 d.1 d.2.1 d.2.2.1 d.2.2.2) ⟨(.cons ok_shade_isLot .nil),XsOk.nil,ItsOk.nil,YlOk.nil,IysOk.nil⟩ (vq_shade_Check_1) fun d hp=>h d.1 d.2.1 d.2.2.1 d.2.2.2 hp
theorem ok_shade_Check_1:Ok_shade_Check_1:=mk_shade_Check_1 fun lc lo hi lg _=>by
 unfold vc_shade_Check_1; (try delta lI gD sT I64)
 and_intros <;> first | rfl | trivial
def al_slices_IndexFunc_api_ShadeLot_api_ShadeLot:AL ((List (Int × (Int × Int) × Int)) × ((Int × (Int × Int) × Int→Prop) × (Int × (Int × Int) × Int→Bool))):=(.cons (.k (.list (.pair (.i .i64) (.pair (.pair (.i .i64) (.i .i64)) (.i .i64))))) (.one (.fn [(.pair (.i .i64) (.pair (.pair (.i .i64) (.i .i64)) (.i .i64)))] .bo)))
def pre_slices_IndexFunc_api_ShadeLot_api_ShadeLot (d:(List (Int × (Int × Int) × Int)) × ((Int × (Int × Int) × Int→Prop) × (Int × (Int × Int) × Int→Bool))):Prop:=d.1.length ≤ 1000000∧∀ x ∈ d.1,d.2.1 x
def res_slices_IndexFunc_api_ShadeLot_api_ShadeLot (d:(List (Int × (Int × Int) × Int)) × ((Int × (Int × Int) × Int→Prop) × (Int × (Int × Int) × Int→Bool))):SV:=.val (.i .i64) (idxG d.1 d.2.2)
def obs_slices_IndexFunc_api_ShadeLot_api_ShadeLot (d:(List (Int × (Int × Int) × Int)) × ((Int × (Int × Int) × Int→Prop) × (Int × (Int × Int) × Int→Bool))):List OB:=[]
def s_slices_IndexFunc_api_ShadeLot_api_ShadeLot:CSp:=mkSp al_slices_IndexFunc_api_ShadeLot_api_ShadeLot pre_slices_IndexFunc_api_ShadeLot_api_ShadeLot res_slices_IndexFunc_api_ShadeLot_api_ShadeLot obs_slices_IndexFunc_api_ShadeLot_api_ShadeLot
def vc_slices_IndexFunc_api_ShadeLot_api_ShadeLot (l:List (Int × (Int × Int) × Int)) (p:(Int × (Int × Int) × Int→Prop) × (Int × (Int × Int) × Int→Bool)):Prop :=
 ∃ (e2:Unit) (d20:Int),((l=l∧(SV.pf [(.pair (.i .i64) (.pair (.pair (.i .i64) (.i .i64)) (.i .i64)))] .bo p.1 p.2=SV.pf [(.pair (.i .i64) (.pair (.pair (.i .i64) (.i .i64)) (.i .i64)))] .bo p.1 p.2)∧(lI l)=(lI l)∧(0:Int)=d20∧True)∧(True)) ∧
 LoopP (fun (d2:Int) (q2:(Int)→Prop) =>
  ((decide (d2 < (lI l)))=true →
   (0 ≤ d2)∧(d2 < (List.length l))∧(p.1 ((gD l d2 (0,((0,0),0))).1,(((gD l d2 (0,((0,0),0))).2.1.1,(gD l d2 (0,((0,0),0))).2.1.2),(gD l d2 (0,((0,0),0))).2.2)))∧((p.2 ((gD l d2 (0,((0,0),0))).1,(((gD l d2 (0,((0,0),0))).2.1.1,(gD l d2 (0,((0,0),0))).2.1.2),(gD l d2 (0,((0,0),0))).2.2)))=true →
    (d2=(idxG l p.2)∧(True))) ∧
   ((p.2 ((gD l d2 (0,((0,0),0))).1,(((gD l d2 (0,((0,0),0))).2.1.1,(gD l d2 (0,((0,0),0))).2.1.2),(gD l d2 (0,((0,0),0))).2.2)))=false →
    (I64 (d2 + (1:Int)))∧(∃ d3:Int,((l=l∧(SV.pf [(.pair (.i .i64) (.pair (.pair (.i .i64) (.i .i64)) (.i .i64)))] .bo p.1 p.2=SV.pf [(.pair (.i .i64) (.pair (.pair (.i .i64) (.i .i64)) (.i .i64)))] .bo p.1 p.2)∧(lI l)=(lI l)∧(d2 + (1:Int))=d3∧True)∧(True))∧q2 d3))) ∧
  ((decide (d2 < (lI l)))=false →
   ((-1:Int)=(idxG l p.2)∧(True)))) d20
def cx_slices_IndexFunc_api_ShadeLot_api_ShadeLot:Cx:=⟨[],[],19,[],0,[],[],[],[],false,[],[],[]⟩
def lp_slices_IndexFunc_api_ShadeLot_api_ShadeLot (l:List (Int × (Int × Int) × Int)) (p:(Int × (Int × Int) × Int→Prop) × (Int × (Int × Int) × Int→Bool)):List (Nat × LoopAnn):=[(0,⟨Unit,Int,[0,1,7,8],fun e x=>[.val (.list (.pair (.i .i64) (.pair (.pair (.i .i64) (.i .i64)) (.i .i64)))) l,.pf [(.pair (.i .i64) (.pair (.pair (.i .i64) (.i .i64)) (.i .i64)))] .bo p.1 p.2,.val (.i .i64) (((List.length l):Nat):Int),.val (.i .i64) x],fun e x=>[]⟩)]
set_option maxRecDepth 100000 in
theorem vq_slices_IndexFunc_api_ShadeLot_api_ShadeLot (d:(List (Int × (Int × Int) × Int)) × ((Int × (Int × Int) × Int→Prop) × (Int × (Int × Int) × Int→Bool))):gwp (cx_slices_IndexFunc_api_ShadeLot_api_ShadeLot) (lp_slices_IndexFunc_api_ShadeLot_api_ShadeLot d.1 d.2) c104 0 (gend [.tmp 4] (res_slices_IndexFunc_api_ShadeLot_api_ShadeLot d) (obs_slices_IndexFunc_api_ShadeLot_api_ShadeLot d)) (gstart 19 (AL.can al_slices_IndexFunc_api_ShadeLot_api_ShadeLot d))=vc_slices_IndexFunc_api_ShadeLot_api_ShadeLot d.1 d.2:=by kernel_rfl
abbrev Ok_slices_IndexFunc_api_ShadeLot_api_ShadeLot:Prop:=OkC Tryz.prog 104 s_slices_IndexFunc_api_ShadeLot_api_ShadeLot
theorem mk_slices_IndexFunc_api_ShadeLot_api_ShadeLot (h:∀ (l:List (Int × (Int × Int) × Int)) (p:(Int × (Int × Int) × Int→Prop) × (Int × (Int × Int) × Int→Bool)),(l.length ≤ 1000000∧∀ x ∈ l,p.1 x)→vc_slices_IndexFunc_api_ShadeLot_api_ShadeLot l p):OkC Tryz.prog 104 s_slices_IndexFunc_api_ShadeLot_api_ShadeLot :=
 okC_vc fun104 mixed (C:=cx_slices_IndexFunc_api_ShadeLot_api_ShadeLot) (V:=fun (d:(List (Int × (Int × Int) × Int)) × ((Int × (Int × Int) × Int→Prop) × (Int × (Int × Int) × Int→Bool)))=>vc_slices_IndexFunc_api_ShadeLot_api_ShadeLot d.1 d.2) ⟨.nil,XsOk.nil,ItsOk.nil,YlOk.nil,IysOk.nil⟩ (vq_slices_IndexFunc_api_ShadeLot_api_ShadeLot) fun d hp=>h d.1 d.2 hp
theorem ok_slices_IndexFunc_api_ShadeLot_api_ShadeLot:Ok_slices_IndexFunc_api_ShadeLot_api_ShadeLot:=mk_slices_IndexFunc_api_ShadeLot_api_ShadeLot fun l p hp=>by
 unfold vc_slices_IndexFunc_api_ShadeLot_api_ShadeLot; (try delta lI gD sT I64); simp only [true_and,and_true,exists_eq_left',exists_const,decide_eq_true_eq,decide_eq_false_iff_not]
 refine LoopP.count l.length (fun k=>(l.take k).any p.2=false) (by simp) fun k hk1 hJ q hq=>?_
 simp only [Int.toNat_natCast,Int.ofNat_lt,InK_i64]
 refine ⟨fun hlt=>?_,fun hge=>?_⟩
 ·have hlt:k < l.length:=by omega
  rw [getD_nat hlt]
  refine ⟨by omega,by omega,hp.2 _ (List.getElem_mem hlt),fun hx=>?_,fun hx=>⟨by omega,hq hlt ?_⟩⟩
  ·rw [idxG_some hlt hx hJ]
  ·rw [take_succ_eq hlt,List.any_append,hJ]; simp [hx]
 ·rw [List.take_of_length_le (by omega)] at hJ
  rw [idxG_none hJ]
def al_slices_ContainsFunc_api_ShadeLot_api_ShadeLot:AL ((List (Int × (Int × Int) × Int)) × ((Int × (Int × Int) × Int→Prop) × (Int × (Int × Int) × Int→Bool))):=(.cons (.k (.list (.pair (.i .i64) (.pair (.pair (.i .i64) (.i .i64)) (.i .i64))))) (.one (.fn [(.pair (.i .i64) (.pair (.pair (.i .i64) (.i .i64)) (.i .i64)))] .bo)))
def pre_slices_ContainsFunc_api_ShadeLot_api_ShadeLot (d:(List (Int × (Int × Int) × Int)) × ((Int × (Int × Int) × Int→Prop) × (Int × (Int × Int) × Int→Bool))):Prop:=d.1.length ≤ 1000000∧∀ x ∈ d.1,d.2.1 x
def res_slices_ContainsFunc_api_ShadeLot_api_ShadeLot (d:(List (Int × (Int × Int) × Int)) × ((Int × (Int × Int) × Int→Prop) × (Int × (Int × Int) × Int→Bool))):SV:=.val .bo (d.1.any d.2.2)
def obs_slices_ContainsFunc_api_ShadeLot_api_ShadeLot (d:(List (Int × (Int × Int) × Int)) × ((Int × (Int × Int) × Int→Prop) × (Int × (Int × Int) × Int→Bool))):List OB:=[]
def s_slices_ContainsFunc_api_ShadeLot_api_ShadeLot:CSp:=mkSp al_slices_ContainsFunc_api_ShadeLot_api_ShadeLot pre_slices_ContainsFunc_api_ShadeLot_api_ShadeLot res_slices_ContainsFunc_api_ShadeLot_api_ShadeLot obs_slices_ContainsFunc_api_ShadeLot_api_ShadeLot
def vc_slices_ContainsFunc_api_ShadeLot_api_ShadeLot (l:List (Int × (Int × Int) × Int)) (p:(Int × (Int × Int) × Int→Prop) × (Int × (Int × Int) × Int→Bool)):Prop :=
 (l.length ≤ 1000000∧∀ x ∈ l,(fun (x1:Int × (Int × Int) × Int)=>p.1 (x1.1,((x1.2.1.1,x1.2.1.2),x1.2.2))) x)∧((decide ((idxG l (fun (x1:Int × (Int × Int) × Int)=>(p.2 (x1.1,((x1.2.1.1,x1.2.1.2),x1.2.2))))) ≥ (0:Int)))=(l.any p.2)∧(True))
def cx_slices_ContainsFunc_api_ShadeLot_api_ShadeLot:Cx:=⟨[],[(104,s_slices_IndexFunc_api_ShadeLot_api_ShadeLot)],9,[],0,[],[],[],[],false,[],[],[]⟩
def lp_slices_ContainsFunc_api_ShadeLot_api_ShadeLot (l:List (Int × (Int × Int) × Int)) (p:(Int × (Int × Int) × Int→Prop) × (Int × (Int × Int) × Int→Bool)):List (Nat × LoopAnn):=[]
set_option maxRecDepth 100000 in
theorem vq_slices_ContainsFunc_api_ShadeLot_api_ShadeLot (d:(List (Int × (Int × Int) × Int)) × ((Int × (Int × Int) × Int→Prop) × (Int × (Int × Int) × Int→Bool))):gwp (cx_slices_ContainsFunc_api_ShadeLot_api_ShadeLot) (lp_slices_ContainsFunc_api_ShadeLot_api_ShadeLot d.1 d.2) c90 0 (gend [.tmp 4] (res_slices_ContainsFunc_api_ShadeLot_api_ShadeLot d) (obs_slices_ContainsFunc_api_ShadeLot_api_ShadeLot d)) (gstart 9 (AL.can al_slices_ContainsFunc_api_ShadeLot_api_ShadeLot d))=vc_slices_ContainsFunc_api_ShadeLot_api_ShadeLot d.1 d.2:=by kernel_rfl
abbrev Ok_slices_ContainsFunc_api_ShadeLot_api_ShadeLot:Prop:=OkC Tryz.prog 90 s_slices_ContainsFunc_api_ShadeLot_api_ShadeLot
theorem mk_slices_ContainsFunc_api_ShadeLot_api_ShadeLot (h:∀ (l:List (Int × (Int × Int) × Int)) (p:(Int × (Int × Int) × Int→Prop) × (Int × (Int × Int) × Int→Bool)),(l.length ≤ 1000000∧∀ x ∈ l,p.1 x)→vc_slices_ContainsFunc_api_ShadeLot_api_ShadeLot l p):OkC Tryz.prog 90 s_slices_ContainsFunc_api_ShadeLot_api_ShadeLot :=
 okC_vc fun90 mixed (C:=cx_slices_ContainsFunc_api_ShadeLot_api_ShadeLot) (V:=fun (d:(List (Int × (Int × Int) × Int)) × ((Int × (Int × Int) × Int→Prop) × (Int × (Int × Int) × Int→Bool)))=>vc_slices_ContainsFunc_api_ShadeLot_api_ShadeLot d.1 d.2) ⟨(.cons ok_slices_IndexFunc_api_ShadeLot_api_ShadeLot .nil),XsOk.nil,ItsOk.nil,YlOk.nil,IysOk.nil⟩ (vq_slices_ContainsFunc_api_ShadeLot_api_ShadeLot) fun d hp=>h d.1 d.2 hp
theorem ok_slices_ContainsFunc_api_ShadeLot_api_ShadeLot:Ok_slices_ContainsFunc_api_ShadeLot_api_ShadeLot:=mk_slices_ContainsFunc_api_ShadeLot_api_ShadeLot fun l p hp=>by
 simp only [vc_slices_ContainsFunc_api_ShadeLot_api_ShadeLot]
 exact ⟨hp,idxG_any l p.2,trivial⟩
def al_shade_Check:AL (List (Int × (Int × Int) × Int)):=(.one (.k (.list (.pair (.i .i64) (.pair (.pair (.i .i64) (.i .i64)) (.i .i64))))))
def pre_shade_Check (d:List (Int × (Int × Int) × Int)):Prop:=d.length ≤ 1000
def res_shade_Check (d:List (Int × (Int × Int) × Int)):SV:=.val (.i .i64) (lotsErr d)
def obs_shade_Check (d:List (Int × (Int × Int) × Int)):List OB:=[]
def s_shade_Check:CSp:=mkSp al_shade_Check pre_shade_Check res_shade_Check obs_shade_Check
def vc_shade_Check (l:List (Int × (Int × Int) × Int)):Prop :=
 ((decide ((lI l) > (12:Int)))=true →
  ((5:Int)=(lotsErr l)∧(True))) ∧
 ((decide ((lI l) > (12:Int)))=false →
  (l.length ≤ 1000000∧∀ x ∈ l,(fun (x1:Int × (Int × Int) × Int)=>True) x)∧((l.any (fun (x1:Int × (Int × Int) × Int)=>(!lotOk (x1.1,(x1.2.1.1,x1.2.1.2),x1.2.2))))=true →
   ((2:Int)=(lotsErr l)∧(True))) ∧
  ((l.any (fun (x1:Int × (Int × Int) × Int)=>(!lotOk (x1.1,(x1.2.1.1,x1.2.1.2),x1.2.2))))=false →
   ((0:Int)=(lotsErr l)∧(True))))
def cx_shade_Check:Cx:=⟨[],[(90,s_slices_ContainsFunc_api_ShadeLot_api_ShadeLot),(91,s_shade_Check_1)],10,[],0,[],[],[],[],false,[],[],[]⟩
def lp_shade_Check (l:List (Int × (Int × Int) × Int)):List (Nat × LoopAnn):=[]
set_option maxRecDepth 100000 in
theorem vq_shade_Check (d:List (Int × (Int × Int) × Int)):gwp (cx_shade_Check) (lp_shade_Check d) c69 0 (gend [.tmp 2] (res_shade_Check d) (obs_shade_Check d)) (gstart 10 (AL.can al_shade_Check d))=vc_shade_Check d:=by kernel_rfl
abbrev Ok_shade_Check:Prop:=OkC Tryz.prog 69 s_shade_Check
theorem mk_shade_Check (h:∀ (l:List (Int × (Int × Int) × Int)),(l.length ≤ 1000)→vc_shade_Check l):OkC Tryz.prog 69 s_shade_Check :=
 okC_vc fun69 mixed (C:=cx_shade_Check) (V:=fun (d:List (Int × (Int × Int) × Int))=>vc_shade_Check d) ⟨(.cons ok_slices_ContainsFunc_api_ShadeLot_api_ShadeLot (.cons ok_shade_Check_1 .nil)),XsOk.nil,ItsOk.nil,YlOk.nil,IysOk.nil⟩ (vq_shade_Check) fun d hp=>h d hp
theorem ok_shade_Check:Ok_shade_Check:=mk_shade_Check fun l hl=>by
 unfold vc_shade_Check; (try delta lI gD sT I64)
 (try simp only [decide_eq_true_eq,decide_eq_false_iff_not])
 refine ⟨fun h1=>⟨?_,trivial⟩,fun h1=>⟨⟨by omega,fun _ _=>trivial⟩,fun h2=>⟨?_,trivial⟩,fun h2=>⟨?_,trivial⟩⟩⟩
 ·unfold lotsErr; rw [if_pos (by omega)]
 ·unfold lotsErr; rw [if_neg (by omega),if_pos h2]
 ·unfold lotsErr; rw [if_neg (by omega),if_neg (by rw [show (l.any fun x=>!lotOk x)=false from h2]; decide)]
def al_law09_own:AL (List (Int × (Int × Int) × Int)):=(.one (.k (.list (.pair (.i .i64) (.pair (.pair (.i .i64) (.i .i64)) (.i .i64))))))
def pre_law09_own (d:List (Int × (Int × Int) × Int)):Prop:=d.length ≤ 1000
def res_law09_own (d:List (Int × (Int × Int) × Int)):SV:=.lst 0
def obs_law09_own (d:List (Int × (Int × Int) × Int)):List OB:=[.lst 78 (.pair (.i .i64) (.pair (.pair (.i .i64) (.i .i64)) (.i .i64))) d false]
def s_law09_own:CSp:=mkSp al_law09_own pre_law09_own res_law09_own obs_law09_own
def vc_law09_own (l:List (Int × (Int × Int) × Int)):Prop :=
 (((List.length ([]:List (Int × (Int × Int) × Int))) + (List.length l)) * 32 ≤ 70368744177664)∧(True∧(((([]:List (Int × (Int × Int) × Int))++l)=l∧((List.isEmpty l) && false)=false)∧True))
def cx_law09_own:Cx:=⟨[(78,(.pair (.i .i64) (.pair (.pair (.i .i64) (.i .i64)) (.i .i64))))],[],6,[],0,[],[],[],[],false,[],[],[]⟩
def lp_law09_own (l:List (Int × (Int × Int) × Int)):List (Nat × LoopAnn):=[]
set_option maxRecDepth 100000 in
theorem vq_law09_own (d:List (Int × (Int × Int) × Int)):gwp (cx_law09_own) (lp_law09_own d) c14 0 (gend [.tmp 2] (res_law09_own d) (obs_law09_own d)) (gstart 6 (AL.can al_law09_own d))=vc_law09_own d:=by kernel_rfl
abbrev Ok_law09_own:Prop:=OkC Tryz.prog 14 s_law09_own
theorem mk_law09_own (h:∀ (l:List (Int × (Int × Int) × Int)),(l.length ≤ 1000)→vc_law09_own l):OkC Tryz.prog 14 s_law09_own :=
 okC_vc fun14 mixed (C:=cx_law09_own) (V:=fun (d:List (Int × (Int × Int) × Int))=>vc_law09_own d) ⟨.nil,XsOk.nil,ItsOk.nil,YlOk.nil,IysOk.nil⟩ (vq_law09_own) fun d hp=>h d hp
theorem ok_law09_own:Ok_law09_own:=mk_law09_own fun l h=>by
 have h1:l.length * 32 ≤ 70368744177664:=by omega
 simp [vc_law09_own,h1]
def al_law09_ints:AL (List Int):=(.one (.k (.list (.i .i64))))
def pre_law09_ints (d:List Int):Prop:=d.length ≤ 1000
def res_law09_ints (d:List Int):SV:=.lst 0
def obs_law09_ints (d:List Int):List OB:=[.lst 3 (.i .i64) d false]
def s_law09_ints:CSp:=mkSp al_law09_ints pre_law09_ints res_law09_ints obs_law09_ints
def vc_law09_ints (l:List Int):Prop :=
 (((List.length ([]:List Int)) + (List.length l)) * 8 ≤ 70368744177664)∧(True∧(((([]:List Int)++l)=l∧((List.isEmpty l) && false)=false)∧True))
def cx_law09_ints:Cx:=⟨[(3,(.i .i64))],[],6,[],0,[],[],[],[],false,[],[],[]⟩
def lp_law09_ints (l:List Int):List (Nat × LoopAnn):=[]
set_option maxRecDepth 100000 in
theorem vq_law09_ints (d:List Int):gwp (cx_law09_ints) (lp_law09_ints d) c40 0 (gend [.tmp 2] (res_law09_ints d) (obs_law09_ints d)) (gstart 6 (AL.can al_law09_ints d))=vc_law09_ints d:=by kernel_rfl
abbrev Ok_law09_ints:Prop:=OkC Tryz.prog 40 s_law09_ints
theorem mk_law09_ints (h:∀ (l:List Int),(l.length ≤ 1000)→vc_law09_ints l):OkC Tryz.prog 40 s_law09_ints :=
 okC_vc fun40 mixed (C:=cx_law09_ints) (V:=fun (d:List Int)=>vc_law09_ints d) ⟨.nil,XsOk.nil,ItsOk.nil,YlOk.nil,IysOk.nil⟩ (vq_law09_ints) fun d hp=>h d hp
theorem ok_law09_ints:Ok_law09_ints:=mk_law09_ints fun l h=>by
 have h1:l.length * 8 ≤ 70368744177664:=by omega
 simp [vc_law09_ints,h1]
end Go.Proofs.Tryz
set_option linter.unusedVariables false
namespace Go.Proofs.Tryz
open Go Go.V Go.Proofs
def al_shade_spread:AL (List (Int × (Int × Int) × Int)):=(.one (.k (.list (.pair (.i .i64) (.pair (.pair (.i .i64) (.i .i64)) (.i .i64))))))
def pre_shade_spread (d:List (Int × (Int × Int) × Int)):Prop:=d ≠ []∧d.length ≤ 1000∧∀ x ∈ d,lotOk x=true
def res_shade_spread (d:List (Int × (Int × Int) × Int)):SV:=.agg [.val (.i .i64) ((sprD d).1),.val (.i .i64) ((sprD d).2)]
def obs_shade_spread (d:List (Int × (Int × Int) × Int)):List OB:=[]
def s_shade_spread:CSp:=mkSp al_shade_spread pre_shade_spread res_shade_spread obs_shade_spread
def vc_shade_spread (l:List (Int × (Int × Int) × Int)):Prop :=
 (0 ≤ (0:Int))∧((0:Int) < (List.length l))∧(0 ≤ (0:Int))∧((0:Int) < (List.length l))∧((l=l∧True∧True∧True∧((gD l (0:Int) (0,((0,0),0))).2.1.1=(gD l (0:Int) (0,((0,0),0))).2.1.1∧(gD l (0:Int) (0,((0,0),0))).2.1.2=(gD l (0:Int) (0,((0,0),0))).2.1.2∧(([]:List SV)=[]))∧True)∧(((0:Int)=(0:Int)∧(0:Int)=(0:Int)∧(([]:List SV)=[]))∧((gD l (0:Int) (0,((0,0),0))).2.1.1=(gD l (0:Int) (0,((0,0),0))).2.1.1∧(gD l (0:Int) (0,((0,0),0))).2.1.2=(gD l (0:Int) (0,((0,0),0))).2.1.2∧(([]:List SV)=[]))∧((0:Int)=(0:Int)∧(0:Int)=(0:Int)∧(([]:List SV)=[]))∧True))∧((0 ≤ (0:Int))∧((0:Int) < (List.length l))∧(0 ≤ (0:Int))∧((0:Int) < (List.length l))∧((l=l∧True∧True∧True∧((gD l (0:Int) (0,((0,0),0))).2.1.1=(gD l (0:Int) (0,((0,0),0))).2.1.1∧(gD l (0:Int) (0,((0,0),0))).2.1.2=(gD l (0:Int) (0,((0,0),0))).2.1.2∧(([]:List SV)=[]))∧True)∧(((0:Int)=(0:Int)∧(0:Int)=(0:Int)∧(([]:List SV)=[]))∧((gD l (0:Int) (0,((0,0),0))).2.1.1=(gD l (0:Int) (0,((0,0),0))).2.1.1∧(gD l (0:Int) (0,((0,0),0))).2.1.2=(gD l (0:Int) (0,((0,0),0))).2.1.2∧(([]:List SV)=[]))∧((0:Int)=(0:Int)∧(0:Int)=(0:Int)∧(([]:List SV)=[]))∧True)))∧(0 ≤ (1:Int))∧((1:Int) ≤ (lI l))∧((lI l) ≤ (List.length l))∧∃ (e3:Unit) (d30:Int × Int × Int × Int × Int),((True∧True∧True∧(List.take (Int.toNat ((lI l) - (1:Int))) (List.drop (Int.toNat (1:Int)) l))=(List.take (Int.toNat ((lI l) - (1:Int))) (List.drop (Int.toNat (1:Int)) l))∧(lI (List.take (Int.toNat ((lI l) - (1:Int))) (List.drop (Int.toNat (1:Int)) l)))=(lI (List.take (Int.toNat ((lI l) - (1:Int))) (List.drop (Int.toNat (1:Int)) l)))∧(0:Int)=d30.2.2.2.2∧True)∧(((0:Int)=(0:Int)∧(0:Int)=(0:Int)∧(([]:List SV)=[]))∧((gD l (0:Int) (0,((0,0),0))).2.1.1=d30.1∧(gD l (0:Int) (0,((0,0),0))).2.1.2=d30.2.1∧(([]:List SV)=[]))∧((gD l (0:Int) (0,((0,0),0))).2.1.1=d30.2.2.1∧(gD l (0:Int) (0,((0,0),0))).2.1.2=d30.2.2.2.1∧(([]:List SV)=[]))∧True)) ∧
 LoopP (fun (d3:Int × Int × Int × Int × Int) (q3:(Int × Int × Int × Int × Int)→Prop) =>
  ((decide (d3.2.2.2.2 < (lI (List.take (Int.toNat ((lI l) - (1:Int))) (List.drop (Int.toNat (1:Int)) l)))))=true →
   (0 ≤ d3.2.2.2.2)∧(d3.2.2.2.2 < (List.length (List.take (Int.toNat ((lI l) - (1:Int))) (List.drop (Int.toNat (1:Int)) l))))∧(I64 (d3.2.2.2.2 + (1:Int)))∧(∃ d4:Int × Int × Int × Int × Int,((True∧True∧True∧(List.take (Int.toNat ((lI l) - (1:Int))) (List.drop (Int.toNat (1:Int)) l))=(List.take (Int.toNat ((lI l) - (1:Int))) (List.drop (Int.toNat (1:Int)) l))∧(lI (List.take (Int.toNat ((lI l) - (1:Int))) (List.drop (Int.toNat (1:Int)) l)))=(lI (List.take (Int.toNat ((lI l) - (1:Int))) (List.drop (Int.toNat (1:Int)) l)))∧(d3.2.2.2.2 + (1:Int))=d4.2.2.2.2∧True)∧(((0:Int)=(0:Int)∧(0:Int)=(0:Int)∧(([]:List SV)=[]))∧((gmax d3.1 (gD (List.take (Int.toNat ((lI l) - (1:Int))) (List.drop (Int.toNat (1:Int)) l)) d3.2.2.2.2 (0,((0,0),0))).2.1.1)=d4.1∧(gmin d3.2.1 (gD (List.take (Int.toNat ((lI l) - (1:Int))) (List.drop (Int.toNat (1:Int)) l)) d3.2.2.2.2 (0,((0,0),0))).2.1.2)=d4.2.1∧(([]:List SV)=[]))∧((gmin d3.2.2.1 (gD (List.take (Int.toNat ((lI l) - (1:Int))) (List.drop (Int.toNat (1:Int)) l)) d3.2.2.2.2 (0,((0,0),0))).2.1.1)=d4.2.2.1∧(gmax d3.2.2.2.1 (gD (List.take (Int.toNat ((lI l) - (1:Int))) (List.drop (Int.toNat (1:Int)) l)) d3.2.2.2.2 (0,((0,0),0))).2.1.2)=d4.2.2.2.1∧(([]:List SV)=[]))∧True))∧q3 d4)) ∧
  ((decide (d3.2.2.2.2 < (lI (List.take (Int.toNat ((lI l) - (1:Int))) (List.drop (Int.toNat (1:Int)) l)))))=false →
   (I64 (d3.1 - d3.2.1))∧(I64 (d3.2.2.2.1 - d3.2.2.1))∧(((gmax (0:Int) (d3.1 - d3.2.1))=((sprD l).1)∧(d3.2.2.2.1 - d3.2.2.1)=((sprD l).2)∧(([]:List SV)=[]))∧(True)))) d30
def cx_shade_spread:Cx:=⟨[],[],61,[],0,[],[],[],[0,2,3,4,14],false,[],[],[]⟩
def lp_shade_spread (l:List (Int × (Int × Int) × Int)):List (Nat × LoopAnn):=[(0,⟨Unit,Int × Int × Int × Int × Int,[2,3,4,16,17,18],fun e x=>[.box 2 0,.box 3 0,.box 4 0,.val (.list (.pair (.i .i64) (.pair (.pair (.i .i64) (.i .i64)) (.i .i64)))) (List.take (Int.toNat ((((List.length l):Nat):Int) - (1:Int))) (List.drop (Int.toNat (1:Int)) l)),.val (.i .i64) (((List.length (List.take (Int.toNat ((((List.length l):Nat):Int) - (1:Int))) (List.drop (Int.toNat (1:Int)) l))):Nat):Int),.val (.i .i64) x.2.2.2.2],fun e x=>[(2,.slot 2,.cells [.val (.i .i64) (0:Int),.val (.i .i64) (0:Int)] (some 59)),(3,.slot 3,.cells [.val (.i .i64) x.1,.val (.i .i64) x.2.1] (some 59)),(4,.slot 4,.cells [.val (.i .i64) x.2.2.1,.val (.i .i64) x.2.2.2.1] (some 59))]⟩)]
set_option maxRecDepth 100000 in
theorem vq_shade_spread (d:List (Int × (Int × Int) × Int)):gwp (cx_shade_spread) (lp_shade_spread d) c70 0 (gend [.cell 2 true 2] (res_shade_spread d) (obs_shade_spread d)) (gstart 61 (AL.can al_shade_spread d))=vc_shade_spread d:=by kernel_rfl
abbrev Ok_shade_spread:Prop:=OkC Tryz.prog 70 s_shade_spread
theorem mk_shade_spread (h:∀ (l:List (Int × (Int × Int) × Int)),(l ≠ []∧l.length ≤ 1000∧∀ x ∈ l,lotOk x=true)→vc_shade_spread l):OkC Tryz.prog 70 s_shade_spread :=
 okC_vc fun70 mixed (C:=cx_shade_spread) (V:=fun (d:List (Int × (Int × Int) × Int))=>vc_shade_spread d) ⟨.nil,XsOk.nil,ItsOk.nil,YlOk.nil,IysOk.nil⟩ (vq_shade_spread) fun d hp=>h d hp
theorem ok_shade_spread:Ok_shade_spread:=mk_shade_spread fun l h=>by
 obtain ⟨h1,h2,h3⟩:=h
 have hp:1 ≤ l.length:=List.length_pos_iff.2 h1
 unfold vc_shade_spread; (try delta lI gD sT I64)
 simp only [decide_eq_true_eq,decide_eq_false_iff_not]
 have hM:List.take ((l.length:Int) - 1).toNat (List.drop (Int.toNat 1) l)=l.drop 1:=List.take_of_length_le (by rw [List.length_drop]; show l.length - 1 ≤ _; omega)
 have hMl:(l.drop 1).length=l.length - 1:=List.length_drop ..
 have hMk:∀ k,k + 1 < l.length→(l.drop 1).getD k (0,((0,0),0))=l[k + 1]?.getD lotD:=fun k hk=>by
  rw [getD_nat (by omega),List.getElem_drop,List.getElem?_eq_getElem hk]
  simp only [Option.getD_some,Nat.add_comm]
 have h0:l.getD (Int.toNat 0) (0,((0,0),0))=l.getD 0 lotD:=rfl
 have s1:=sprF_one h1
 rw [hM,h0]
 refine ⟨by omega,by omega,by omega,by omega,(by and_intros <;> first | rfl | trivial | simp),⟨by omega,by omega,by omega,by omega,(by and_intros <;> first | rfl | trivial | simp)⟩,by omega,by omega,by omega,(),((sprF l 1).1,(sprF l 1).2.1,(sprF l 1).2.2.1,(sprF l 1).2.2.2,0),by rw [s1]; exact (by and_intros <;> first | rfl | trivial | simp),?_⟩
 refine ⟨fun d=>∃ k:Nat,k + 1 ≤ l.length∧d=((sprF l (k + 1)).1,(sprF l (k + 1)).2.1,(sprF l (k + 1)).2.2.1,(sprF l (k + 1)).2.2.2,(k:Int)),fun d=>l.length - d.2.2.2.2.toNat,⟨0,hp,rfl⟩,?_⟩
 rintro _ ⟨k,hk,rfl⟩
 dsimp only
 simp only [Int.toNat_natCast,hMl]
 refine ⟨fun hlt=>?_,fun hge=>?_⟩
 ·have hk1:k + 1 < l.length:=by omega
  rw [hMk k hk1,List.getElem?_eq_getElem hk1,Option.getD_some]
  have hs:=sprF_succ hk1
  refine ⟨by omega,by omega,by rw [InK_i64]; omega,((sprF l (k + 1 + 1)).1,(sprF l (k + 1 + 1)).2.1,(sprF l (k + 1 + 1)).2.2.1,(sprF l (k + 1 + 1)).2.2.2,(k:Int) + 1),by rw [hs]; exact (by and_intros <;> first | rfl | trivial | simp),⟨k + 1,by omega,by simp⟩,?_⟩
  dsimp only
  omega
 ·have hkl:k + 1=l.length:=by omega
  obtain ⟨a,⟨i1,b1,c1⟩,⟨i2,b2,c2⟩,⟨i3,b3,c3⟩,⟨i4,b4,c4⟩⟩:=sprF_spec h1 l.length hp (Nat.le_refl _)
  have hv:∀ i,i < l.length→0 ≤ (l.getD i lotD).2.1.1∧(l.getD i lotD).2.1.1 ≤ 1000∧0 ≤ (l.getD i lotD).2.1.2∧(l.getD i lotD).2.1.2 ≤ 1000:=fun i hi=>by
   have:=lotOk_iff.1 (h3 _ (List.getElem_mem hi))
   rw [getD_nat hi]; omega
  have v1:=hv i1 b1
  have v2:=hv i2 b2
  have v3:=hv i3 b3
  have v4:=hv i4 b4
  rw [hkl]
  unfold sprD
  refine ⟨by rw [InK_i64]; omega,by rw [InK_i64]; omega,?_⟩
  and_intros <;> first | rfl | trivial
end Go.Proofs.Tryz
set_option linter.unusedVariables false
namespace Go.Proofs.Tryz
open Go Go.V Go.Proofs
def al_shade_Spread:AL ((List (Int × (Int × Int) × Int)) × List Int):=(.cons (.k (.list (.pair (.i .i64) (.pair (.pair (.i .i64) (.i .i64)) (.i .i64))))) (.one (.k (.list (.i .i64)))))
def pre_shade_Spread (d:(List (Int × (Int × Int) × Int)) × List Int):Prop:=d.1.length ≤ 1000∧d.2.length ≤ 1000
def res_shade_Spread (d:(List (Int × (Int × Int) × Int)) × List Int):SV:=.tup [.agg [.val (.i .i64) ((spreadSp d.1 d.2).1),.val (.i .i64) ((spreadSp d.1 d.2).2)],.val (.i .i64) (spreadErr d.1 d.2)]
def obs_shade_Spread (d:(List (Int × (Int × Int) × Int)) × List Int):List OB:=[]
def s_shade_Spread:CSp:=mkSp al_shade_Spread pre_shade_Spread res_shade_Spread obs_shade_Spread
def vc_shade_Spread (l:List (Int × (Int × Int) × Int)) (sm:List Int):Prop :=
 (l.length ≤ 1000)∧(((lotsErr l) != (0:Int))=true →
  ((((0:Int)=((spreadSp l sm).1)∧(0:Int)=((spreadSp l sm).2)∧(([]:List SV)=[]))∧(lotsErr l)=(spreadErr l sm)∧(([]:List SV)=[]))∧(True))) ∧
 (((lotsErr l) != (0:Int))=false →
  (((lI sm) == (0:Int))=false→InK .i64 ((lI l) - (1:Int)))∧(((lI sm) == (0:Int))=false→sm.length ≤ 1000000)∧((((lI sm) == (0:Int)) || (!(!(sm.any fun n=>decide (n < (0:Int)) || decide (((lI l) - (1:Int)) < n)))))=true →
   ((((0:Int)=((spreadSp l sm).1)∧(0:Int)=((spreadSp l sm).2)∧(([]:List SV)=[]))∧(7:Int)=(spreadErr l sm)∧(([]:List SV)=[]))∧(True))) ∧
  ((((lI sm) == (0:Int)) || (!(!(sm.any fun n=>decide (n < (0:Int)) || decide (((lI l) - (1:Int)) < n)))))=false →
   ∃ (e4:Unit) (d40:(List (Int × (Int × Int) × Int)) × (List (Int × Bool)) × Int),((l=l∧True∧True∧True∧sm=sm∧(lI sm)=(lI sm)∧(0:Int)=d40.2.2∧True)∧(((0:Int)=(0:Int)∧(0:Int)=(0:Int)∧(([]:List SV)=[]))∧(d40.1=[]∧(List.isEmpty d40.1)=true)∧(([]:List (Int × Bool))=d40.2.1)∧True)) ∧
   LoopP (fun (d4:(List (Int × (Int × Int) × Int)) × (List (Int × Bool)) × Int) (q4:((List (Int × (Int × Int) × Int)) × (List (Int × Bool)) × Int)→Prop) =>
    ((decide (d4.2.2 < (lI sm)))=true →
     (0 ≤ d4.2.2)∧(d4.2.2 < (List.length sm))∧((gq.aget (.i .i64) d4.2.1 (gD sm d4.2.2 0) false)=true →
      ((((0:Int)=((spreadSp l sm).1)∧(0:Int)=((spreadSp l sm).2)∧(([]:List SV)=[]))∧(6:Int)=(spreadErr l sm)∧(([]:List SV)=[]))∧(True))) ∧
     ((gq.aget (.i .i64) d4.2.1 (gD sm d4.2.2 0) false)=false →
      (0 ≤ (gD sm d4.2.2 0))∧((gD sm d4.2.2 0) < (List.length l))∧(((List.length d4.1) + (List.length [((gD l (gD sm d4.2.2 0) (0,((0,0),0))).1,(((gD l (gD sm d4.2.2 0) (0,((0,0),0))).2.1.1,(gD l (gD sm d4.2.2 0) (0,((0,0),0))).2.1.2),(gD l (gD sm d4.2.2 0) (0,((0,0),0))).2.2))])) * 32 ≤ 70368744177664)∧(I64 (d4.2.2 + (1:Int)))∧(∃ d5:(List (Int × (Int × Int) × Int)) × (List (Int × Bool)) × Int,((l=l∧True∧True∧True∧sm=sm∧(lI sm)=(lI sm)∧(d4.2.2 + (1:Int))=d5.2.2∧True)∧(((0:Int)=(0:Int)∧(0:Int)=(0:Int)∧(([]:List SV)=[]))∧((d4.1++[((gD l (gD sm d4.2.2 0) (0,((0,0),0))).1,(((gD l (gD sm d4.2.2 0) (0,((0,0),0))).2.1.1,(gD l (gD sm d4.2.2 0) (0,((0,0),0))).2.1.2),(gD l (gD sm d4.2.2 0) (0,((0,0),0))).2.2))])=d5.1∧false=(List.isEmpty d5.1))∧((aput (.i .i64) d4.2.1 (gD sm d4.2.2 0) true)=d5.2.1)∧True))∧q4 d5))) ∧
    ((decide (d4.2.2 < (lI sm)))=false →
     (d4.1 ≠ []∧d4.1.length ≤ 1000∧∀ x ∈ d4.1,lotOk x=true)∧(((((sprD d4.1).1)=((spreadSp l sm).1)∧((sprD d4.1).2)=((spreadSp l sm).2)∧(([]:List SV)=[]))∧(0:Int)=(spreadErr l sm)∧(([]:List SV)=[]))∧(True)))) d40))
def cx_shade_Spread:Cx:=⟨[(78,(.pair (.i .i64) (.pair (.pair (.i .i64) (.i .i64)) (.i .i64)))),(1000029,(.pair (.i .i64) .bo))],[(69,s_shade_Check),(61,s_shade_within),(70,s_shade_spread)],52,[],0,[],[],[],[],false,[],[],[]⟩
def lp_shade_Spread (l:List (Int × (Int × Int) × Int)) (sm:List Int):List (Nat × LoopAnn):=[(0,⟨Unit,(List (Int × (Int × Int) × Int)) × (List (Int × Bool)) × Int,[0,4,7,8,30,31,32],fun e x=>[.val (.list (.pair (.i .i64) (.pair (.pair (.i .i64) (.i .i64)) (.i .i64)))) l,.box 4 0,.lst 48,.map 29,.val (.list (.i .i64)) sm,.val (.i .i64) (((List.length sm):Nat):Int),.val (.i .i64) x.2.2],fun e x=>[(4,.slot 4,.cells [.val (.i .i64) (0:Int),.val (.i .i64) (0:Int)] (some 59)),(48,.slot 7,.lst 78 (.pair (.i .i64) (.pair (.pair (.i .i64) (.i .i64)) (.i .i64))) x.1 (List.isEmpty x.1)),(29,.slot 8,.map (.i .i64) .bo x.2.1)]⟩)]
set_option maxRecDepth 100000 in
theorem vq_shade_Spread (d:(List (Int × (Int × Int) × Int)) × List Int):gwp (cx_shade_Spread) (lp_shade_Spread d.1 d.2) c39 0 (gend [.cell 4 true 2,.tmp 5] (res_shade_Spread d) (obs_shade_Spread d)) (gstart 52 (AL.can al_shade_Spread d))=vc_shade_Spread d.1 d.2:=by kernel_rfl
abbrev Ok_shade_Spread:Prop:=OkC Tryz.prog 39 s_shade_Spread
theorem mk_shade_Spread (h:∀ (l:List (Int × (Int × Int) × Int)) (sm:List Int),(l.length ≤ 1000∧sm.length ≤ 1000)→vc_shade_Spread l sm):OkC Tryz.prog 39 s_shade_Spread :=
 okC_vc fun39 mixed (C:=cx_shade_Spread) (V:=fun (d:(List (Int × (Int × Int) × Int)) × List Int)=>vc_shade_Spread d.1 d.2) ⟨(.cons ok_shade_Check (.cons ok_shade_within (.cons ok_shade_spread .nil))),XsOk.nil,ItsOk.nil,YlOk.nil,IysOk.nil⟩ (vq_shade_Spread) fun d hp=>h d.1 d.2 hp
end Go.Proofs.Tryz
set_option linter.unusedVariables false
namespace Go.Proofs.Tryz
open Go Go.V Go.Proofs
theorem lots_zero {l:List Lot} (h:lotsErr l=0):l.length ≤ 12∧∀ x ∈ l,lotOk x=true:=by
 unfold lotsErr at h
 split at h
 ·cases h
 ·split at h
  ·cases h
  ·rename_i h1 h2
   refine ⟨by omega,fun x hx=>?_⟩
   have:=List.any_eq_false.1 (Bool.eq_false_iff.2 h2) x hx
   simpa using this
theorem pickL_snoc {l:List Lot} {sm:List Int} {k:Nat} (h:k < sm.length):pickL l (sm.take (k + 1))=pickL l (sm.take k)++[l.getD (sm.getD k 0).toNat lotD]:=by
 unfold pickL; rw [take_succ_eq h,List.map_append,getD_nat h]; rfl
theorem pickL_ok {l:List Lot} {sm:List Int} (h:∀ x ∈ l,lotOk x=true) (hs:∀ i ∈ sm,0 ≤ i∧i < l.length):∀ x ∈ pickL l sm,lotOk x=true:=fun x hx=>by
 simp only [pickL,List.mem_map] at hx
 obtain ⟨i,hi,rfl⟩:=hx
 have:=hs i hi
 rw [getD_nat (show i.toNat < l.length by omega)]
 exact h _ (List.getElem_mem _)
theorem spread_err {l:List Lot} {sm:List Int} {e:Int} (h:spreadErr l sm=e) (h0:e ≠ 0):(0=(spreadSp l sm).1∧0=(spreadSp l sm).2)∧e=spreadErr l sm:=by
 have:spreadSp l sm=(0,0):=by unfold spreadSp; rw [h,if_neg h0]
 rw [this,h]; exact ⟨⟨rfl,rfl⟩,rfl⟩
theorem ok_shade_Spread:Ok_shade_Spread:=mk_shade_Spread fun l sm h=>by
 obtain ⟨h1,h2⟩:=h
 unfold vc_shade_Spread; (try delta lI gD sT I64)
 have e:∀ n a b:Int,(decide (n < a) || decide (b < n))=!inI n a b:=fun n a b=>(nI n a b).symm
 simp only [e,Bool.not_not,decide_eq_true_eq,decide_eq_false_iff_not,bne_iff_ne,bne_eq_false_iff_eq,ne_eq]
 refine ⟨h1,fun a1=>?_,fun a1=>⟨fun _=>by rw [InK_i64]; omega,fun _=>by omega,fun a2=>?_,fun a2=>?_⟩⟩
 ·have:=spread_err (l:=l) (sm:=sm) (e:=lotsErr l) (by unfold spreadErr; rw [if_pos a1]) a1
  and_intros <;> first | exact this.1.1 | exact this.1.2 | exact this.2 | trivial
 ·have:=spread_err (l:=l) (sm:=sm) (e:=7) (by
   unfold spreadErr
   rw [if_neg (by omega),if_pos]
   rw [Bool.or_eq_true] at a2
   rcases a2 with a2 | a2
   ·left; have:=eq_of_beq a2; exact List.length_eq_zero_iff.1 (by omega)
   ·exact .inr a2) (by decide)
  and_intros <;> first | exact this.1.1 | exact this.1.2 | exact this.2 | trivial
 rw [Bool.or_eq_false_iff] at a2
 have a3:sm ≠ []:=fun h=>by rw [h] at a2; simp at a2
 have a4:∀ i ∈ sm,0 ≤ i∧i < l.length:=fun i hi=>by
  have:=List.any_eq_false.1 a2.2 i hi
  simp only [Bool.not_eq_true',Bool.not_eq_false,inI,Bool.and_eq_true,decide_eq_true_eq] at this
  omega
 have hse:spreadErr l sm=if dupL sm then 6 else 0:=by
  unfold spreadErr
  rw [if_neg (by omega),if_neg]
  rintro (h | h)
  ·exact a3 h
  ·rw [a2.2] at h; cases h
 obtain ⟨l1,l2⟩:=lots_zero a1
 refine ⟨(),([],[],0),(by and_intros <;> first | rfl | trivial | simp),?_⟩
 refine LoopP.count3 sm.length (fun k L m=>L=pickL l (sm.take k)∧(∀ x,gq.aget (.i .i64) m x false=decide (x ∈ sm.take k))∧∀ j,j < k→sm.getD j 0 ∉ sm.take j) ⟨rfl,fun x=>by simp; rfl,fun j hj=>by omega⟩ fun k L m hk hJ q hq=>?_
 obtain ⟨rfl,j2,j3⟩:=hJ
 dsimp only
 simp only [Int.toNat_natCast]
 refine ⟨fun hlt=>?_,fun hge=>?_⟩
 ·have hkl:k < sm.length:=by omega
  have hxm:sm.getD k 0 ∈ sm:=by rw [getD_nat hkl]; exact List.getElem_mem hkl
  have hx:=a4 _ hxm
  simp only [j2,decide_eq_true_eq,decide_eq_false_iff_not]
  refine ⟨by omega,hlt,fun hu=>?_,fun hu=>⟨by omega,by omega,?_,by rw [InK_i64]; omega,(pickL l (sm.take (k + 1)),aput (.i .i64) m (sm.getD k 0) true,(k:Int) + 1),?_,hq _ _ hkl ⟨rfl,fun x=>?_,fun j hj=>?_⟩⟩⟩
  ·have hd:dupL sm=true:=List.any_eq_true.2 ⟨k,List.mem_range.2 hkl,decide_eq_true hu⟩
   have:=spread_err (l:=l) (sm:=sm) (e:=6) (by rw [hse,if_pos hd]) (by decide)
   and_intros <;> first | exact this.1.1 | exact this.1.2 | exact this.2 | trivial
  ·simp only [pickL,List.length_map,List.length_take,List.length_cons,List.length_nil]; omega
  ·rw [pickL_snoc hkl]
   have:((pickL l (sm.take k)++[l.getD (sm.getD k 0).toNat lotD]).isEmpty)=false:=by simp
   and_intros <;> first | rfl | trivial | exact this.symm
  ·have hm:x ∈ sm.take (k + 1) ↔ x ∈ sm.take k ∨ x=sm.getD k 0:=by rw [take_succ_eq hkl,List.mem_append,List.mem_singleton,getD_nat hkl]
   rw [aget_aput,j2]
   by_cases h5:x=sm.getD k 0
   ·rw [if_pos h5]; exact (decide_eq_true (hm.2 (.inr h5))).symm
   ·rw [if_neg h5,Bool.eq_iff_iff,decide_eq_true_eq,decide_eq_true_eq,hm]
    exact ⟨.inl,fun h=>h.resolve_right h5⟩
  ·rcases Nat.lt_succ_iff_lt_or_eq.1 hj with hj | rfl
   ·exact j3 j hj
   ·exact hu
 ·have hke:k=sm.length:=by omega
  subst hke
  rw [List.take_length] at *
  have hd:dupL sm=false:=by
   rw [dupL,List.any_eq_false]
   intro j hj
   simpa using j3 j (List.mem_range.1 hj)
  have h6:spreadErr l sm=0:=by rw [hse,hd]; rfl
  have h7:spreadSp l sm=sprD (pickL l sm):=by unfold spreadSp; rw [if_pos h6]
  rw [h6,h7]
  refine ⟨⟨?_,by simp [pickL]; omega,pickL_ok l2 a4⟩,?_⟩
  ·simpa [pickL] using a3
  ·and_intros <;> first | rfl | trivial
end Go.Proofs.Tryz
set_option linter.unusedVariables false
namespace Go.Proofs.Tryz
open Go Go.V Go.Proofs
def tzK:Nat→Nat→Nat
 | 0,_=>0
 | f + 1,n=>if n % 2=1 then 0 else 1 + tzK f (n / 2)
def tzN (n:Nat):Nat:=if n=0 then 64 else tzK 64 n
theorem tzK_spec:∀ f n,0 < n→n < 2 ^ f→tzK f n < f∧∃ m,n=2 ^ tzK f n * (2 * m + 1)
 | 0,n,h0,h1=>by simp at h1; omega
 | f + 1,n,h0,h1=>by
  unfold tzK
  split
  ·rename_i h
   exact ⟨by omega,n / 2,by omega⟩
  ·rename_i h
   have hp:2 ^ (f + 1)=2 * 2 ^ f:=by rw [Nat.pow_succ]; omega
   obtain ⟨h2,m,h3⟩:=tzK_spec f (n / 2) (by omega) (by omega)
   refine ⟨by omega,m,?_⟩
   rw [Nat.add_comm,Nat.pow_succ,Nat.mul_comm (2 ^ _) 2,Nat.mul_assoc,←h3]
   omega
theorem tzN_spec {n:Nat} (h0:0 < n) (h1:n < 2 ^ 64):tzN n < 64∧∃ m,n=2 ^ tzN n * (2 * m + 1):=by
 unfold tzN
 rw [if_neg (by omega)]
 exact tzK_spec 64 n h0 h1
theorem pred_bits {t m:Nat} (i:Nat):(2 ^ t * (2 * m + 1) - 1).testBit i=if i < t then true else if i=t then false else (2 ^ t * (2 * m + 1)).testBit i:=by
 have hp:0 < 2 ^ t:=Nat.two_pow_pos t
 have e:2 ^ t * (2 * m + 1) - 1=2 ^ t * (2 * m) + (2 ^ t - 1):=by rw [Nat.mul_add,Nat.mul_one]; omega
 rw [e,Nat.testBit_two_pow_mul_add _ (by omega)]
 split
 ·rename_i h
  rw [Nat.testBit_two_pow_sub_one]; simpa using h
 ·rename_i h
  split
  ·rename_i h2
   subst h2
   simp
  ·rename_i h2
   rw [Nat.testBit_two_pow_mul]
   obtain ⟨k,hk⟩:∃ k,i - t=k + 1:=⟨i - t - 1,by omega⟩
   have hd:decide (i ≥ t)=true:=decide_eq_true (by omega)
   rw [hd,hk,Nat.testBit_succ,Nat.testBit_succ,Bool.true_and]
   congr 1
   omega
theorem low_bit {n:Nat} (h0:0 < n) (h1:n < 2 ^ 64):n &&& (2 ^ 64 - n)=2 ^ tzN n:=by
 obtain ⟨ht,m,hm⟩:=tzN_spec h0 h1
 generalize tzN n=t at *
 refine Nat.eq_of_testBit_eq fun i=>?_
 have e:2 ^ 64 - n=2 ^ 64 - ((n - 1) + 1):=by omega
 rw [Nat.testBit_and,e,Nat.testBit_two_pow_sub_succ (by omega),Nat.testBit_two_pow,hm,pred_bits]
 by_cases h2:i < t
 ·rw [if_pos h2,Nat.testBit_two_pow_mul,decide_eq_false (show ¬ i ≥ t by omega),decide_eq_false (show ¬ t=i by omega)]; rfl
 ·rw [if_neg h2]
  by_cases h3:i=t
  ·subst h3
   rw [if_pos rfl,Nat.testBit_two_pow_mul]
   simp
   omega
  ·rw [if_neg h3,decide_eq_false (show ¬ t=i by omega)]
   cases (2 ^ t * (2 * m + 1)).testBit i <;> simp
theorem clear_bit {n:Nat} (h0:0 < n) (h1:n < 2 ^ 64) (i:Nat):(n &&& (n - 1)).testBit i=(n.testBit i && !decide (i=tzN n)):=by
 obtain ⟨ht,m,hm⟩:=tzN_spec h0 h1
 generalize tzN n=t at *
 rw [Nat.testBit_and,hm,pred_bits]
 by_cases h2:i < t
 ·rw [if_pos h2,decide_eq_false (by omega)]; simp
 ·rw [if_neg h2]
  by_cases h3:i=t
  ·rw [if_pos h3,decide_eq_true h3]; simp
  ·rw [if_neg h3,decide_eq_false h3]; simp
def setK:Nat→Nat→List Int
 | 0,_=>[]
 | f + 1,n=>if n=0 then [] else (tzN n:Int) :: setK f (n &&& (n - 1))
def setL (n:Nat):List Int:=setK n n
theorem setK_more:∀ f g n,n ≤ f→n ≤ g→setK f n=setK g n
 | 0,g,n,h1,_=>by
  have:n=0:=by omega
  subst this
  cases g <;> simp [setK]
 | f + 1,0,n,_,h2=>by
  have:n=0:=by omega
  subst this; simp [setK]
 | f + 1,g + 1,n,h1,h2=>by
  unfold setK
  by_cases h:n=0
  ·rw [if_pos h,if_pos h]
  ·rw [if_neg h,if_neg h]
   have:=Nat.and_le_right (n:=n) (m:=n - 1)
   rw [setK_more f g _ (by omega) (by omega)]
theorem setL_step {n:Nat} (h:0 < n):setL n=(tzN n:Int) :: setL (n &&& (n - 1)):=by
 have:=Nat.and_le_right (n:=n) (m:=n - 1)
 unfold setL
 obtain ⟨f,rfl⟩:∃ f,n=f + 1:=⟨n - 1,by omega⟩
 conv=>lhs; unfold setK
 rw [if_neg (by omega),setK_more f _ _ (by omega) (Nat.le_refl _)]
theorem setL_zero:setL 0=[]:=rfl
theorem tab_at:∀ t:Nat,t < 64→Go.V.t64[(2 ^ t * 285870213051353865 % 18446744073709551616) / 288230376151711744]?=some (t:Int):=by decide +kernel
end Go.Proofs.Tryz
set_option linter.unusedVariables false
namespace Go.Proofs.Tryz
open Go Go.V Go.Proofs
def czT:VCode :=
 .seq (.region [
  ⟨(some 2),.move (.const (.int .i64 (0))),none⟩])
 (.seq (.seq (.region [
  ⟨(some 3),.move (.tmp 0),none⟩,
  ⟨(some 4),.cmp .eql (.tmp 3) (.const (.int .u64 (0))),none⟩])
 (.cond (.tmp 4) (.seq (.region [
   ⟨(some 2),.move (.const (.int .i64 (64))),none⟩])
  (.ret))
  (.skip)))
 (.seq (.region [
  ⟨(some 5),.move (.tmp 0),none⟩,
  ⟨(some 6),.move (.tmp 0),none⟩,
  ⟨(some 7),.un .neg (.tmp 6),none⟩,
  ⟨(some 8),.bits .and (.tmp 5) (.tmp 7),none⟩,
  ⟨(some 9),.arith .mul (.tmp 8) (.const (.int .u64 (285870213051353865))),none⟩,
  ⟨(some 10),.shift .shr (.tmp 9) (.const (.int .u64 (58))),none⟩,
  ⟨(some 11),.indexAddrArr 64 1 (.global 1) (.tmp 10),none⟩,
  ⟨(some 12),.load false 1 (.tmp 11),none⟩,
  ⟨(some 13),.convI .i64 (.tmp 12),none⟩,
  ⟨(some 2),.move (.tmp 13),none⟩])
 (.ret)))
theorem vstepT {S:VSpecs} {op:VOp} {d:Option Nat} {l:List VOper} {env:Env} {σ:Heap} {K:Env→Heap→Prop} (v:Value) (h:∀ Q:Value→Heap→Prop,Q v σ→vop S op env σ Q) (hK:vops S l (putE env d v) σ K):vops S (⟨d,op,none⟩ :: l) env σ K:=by
 show vif true _ _
 exact ⟨fun _=>h _ hK,fun h=>by cases h⟩
theorem vop_cmp {S:VSpecs} {op:BinOp} {x y:Operand} {env:Env} {σ:Heap} {Q:Value→Heap→Prop} {k:IntKind} {a b:Int} (hx:evalO env x=.int k a) (hy:evalO env y=.int k b) (h:Q (.bool (vcmp op a b)) σ):vop S (.cmp op x y) env σ Q:=by
 simp only [vop,vact,hx,hy,if_true,obind]; exact h
theorem vop_bits {S:VSpecs} {op:BinOp} {x y:Operand} {env:Env} {σ:Heap} {Q:Value→Heap→Prop} {k:IntKind} {a b:Int} (hx:evalO env x=.int k a) (hy:evalO env y=.int k b) (h:Q (.int k (vbits op k a b)) σ):vop S (.bits op x y) env σ Q:=by
 simp only [vop,vact,hx,hy,if_true,obind]; exact h
theorem vop_arith {S:VSpecs} {op:BinOp} {x y:Operand} {env:Env} {σ:Heap} {Q:Value→Heap→Prop} {k:IntKind} {a b:Int} (hx:evalO env x=.int k a) (hy:evalO env y=.int k b) (h:Q (.int k (varith op k a b)) σ):vop S (.arith op x y) env σ Q:=by
 simp only [vop,vact,hx,hy,if_true,obind]; exact h
theorem vop_shift {S:VSpecs} {op:BinOp} {x y:Operand} {env:Env} {σ:Heap} {Q:Value→Heap→Prop} {k k':IntKind} {a b:Int} (hx:evalO env x=.int k a) (hy:evalO env y=.int k' b) (h0:0 ≤ b) (h:Q (.int k (vshift op k a b)) σ):vop S (.shift op x y) env σ Q:=by
 simp only [vop,vact,hx,hy,h0,if_true,obind]; exact h
theorem vop_conv {S:VSpecs} {x:Operand} {env:Env} {σ:Heap} {Q:Value→Heap→Prop} {k k':IntKind} {a:Int} (hx:evalO env x=.int k a) (h:Q (.int k' (k'.wrap a)) σ):vop S (.convI k' x) env σ Q:=by
 simp only [vop,vact,hx,obind]; exact h
theorem vop_arr {S:VSpecs} {len size g o s:Nat} {x y:Operand} {env:Env} {σ:Heap} {Q:Value→Heap→Prop} {k':IntKind} {b:Int} (hx:evalO env x=.pointer (some ⟨g,o,some s⟩)) (hy:evalO env y=.int k' b) (h0:0 ≤ b∧b < len) (h:Q (.pointer (some ⟨g,o + b.toNat * size,some s⟩)) σ):vop S (.indexAddrArr len size x y) env σ Q:=by
 simp only [vop,vact,hx,hy,h0,and_self,if_true,obind]; exact h
theorem vop_load {S:VSpecs} {size g o s:Nat} {agg:Bool} {x:Operand} {env:Env} {σ:Heap} {Q:Value→Heap→Prop} {c:List Value} {v:Value} (hx:evalO env x=.pointer (some ⟨g,o,some s⟩)) (hg:gtab g=some c) (hp:c.all plainV=true) (hv:vpart agg size c o=some v) (h:Q v σ):vop S (.load agg size x) env σ Q:=by
 simp only [vop,vact,hx,hg,hp,hv,if_true,obind]; exact h
theorem wrap_u64 (x:Int):IntKind.wrap .u64 x=x % 18446744073709551616:=by
 show (if (false && decide (x % (18446744073709551616:Int) ≥ 9223372036854775808))=true then x % (18446744073709551616:Int) - 18446744073709551616 else x % (18446744073709551616:Int))=_
 simp
theorem toNat_ofInt64 {x:Nat} (h:x < 2 ^ 64):(BitVec.ofInt 64 (x:Int)).toNat=x:=by
 rw [ofInt_nat,BitVec.toNat_ofNat,Nat.mod_eq_of_lt h]
theorem vand_u64 {x y:Nat} (hx:x < 2 ^ 64) (hy:y < 2 ^ 64):vbits .and .u64 x y=((x &&& y:Nat):Int):=by
 have e:(BitVec.ofInt 64 (x:Int) &&& BitVec.ofInt 64 (y:Int)).toNat=x &&& y:=by rw [BitVec.toNat_and,toNat_ofInt64 hx,toNat_ofInt64 hy]
 show IntKind.wrap .u64 ((BitVec.ofInt 64 (x:Int) &&& BitVec.ofInt 64 (y:Int)).toNat:Int)=_
 have hl:x &&& y ≤ x:=Nat.and_le_left
 rw [e,wrap_u64]; omega
set_option maxHeartbeats 2000000 in
theorem tz_run {P:Program} {f:Nat} (h:Fun P f czT [.tmp 2] 14) (hm:P.follows .mixedOrders=true) {x:Int} (h0:0 ≤ x) (h1:x ≤ 18446744073709551615) {σ:Heap} {K:Value→Heap→Prop} (hK:K (.int .i64 (tzN x.toNat)) σ):VCalled P f [.int .u64 x] σ K:=by
 refine h.calls hm okSem ?_
 obtain ⟨n,rfl⟩:=Int.eq_ofNat_of_zero_le h0
 have h1:n < 2 ^ 64:=by omega
 rw [Int.toNat_natCast] at hK
 unfold czT
 refine vstepT (.int .i64 0) (fun _ h=>h) ?_
 refine vstepT (.int .u64 n) (fun _ h=>h) ?_
 refine vstepT (.bool ((n:Int) == 0)) (fun _ h=>vop_cmp (k:=.u64) (a:=n) (b:=0) rfl rfl h) ?_
 show vif ((n:Int) == 0) _ _
 refine ⟨fun hz=>?_,fun hz=>?_⟩
 ·have hz:n=0:=by have:=eq_of_beq hz; omega
  subst hz
  refine vstepT (.int .i64 64) (fun _ h=>h) ?_
  exact ⟨_,_,DropTo.refl _ _ _,hK⟩
 have hz:0 < n:=by
  rcases Nat.eq_zero_or_pos n with h | h
  ·subst h; cases hz
  ·exact h
 refine vstepT (.int .u64 n) (fun _ h=>h) ?_
 refine vstepT (.int .u64 n) (fun _ h=>h) ?_
 refine vstepT (.int .u64 (IntKind.u64.wrap (0 - (n:Int)))) (fun _ h=>h) ?_
 have hand:vbits .and .u64 n (IntKind.u64.wrap (0 - (n:Int)))=((2 ^ tzN n:Nat):Int):=by
  have e:IntKind.u64.wrap (0 - (n:Int))=((2 ^ 64 - n:Nat):Int):=by rw [wrap_u64]; omega
  rw [e,vand_u64 h1 (by omega),low_bit hz h1]
 refine vstepT (.int .u64 ((2 ^ tzN n:Nat):Int)) (fun _ h=>vop_bits (k:=.u64) (a:=n) (b:=IntKind.u64.wrap (0 - (n:Int))) rfl rfl (by rw [hand]; exact h)) ?_
 have hmul:varith .mul .u64 ((2 ^ tzN n:Nat):Int) 285870213051353865=((2 ^ tzN n * 285870213051353865 % 18446744073709551616:Nat):Int):=by
  show IntKind.wrap .u64 (((2 ^ tzN n:Nat):Int) * 285870213051353865)=_
  rw [wrap_u64]; omega
 refine vstepT (.int .u64 ((2 ^ tzN n * 285870213051353865 % 18446744073709551616:Nat):Int)) (fun _ h=>vop_arith (k:=.u64) (a:=((2 ^ tzN n:Nat):Int)) (b:=285870213051353865) rfl rfl (by rw [hmul]; exact h)) ?_
 have hshr:vshift .shr .u64 ((2 ^ tzN n * 285870213051353865 % 18446744073709551616:Nat):Int) 58=((2 ^ tzN n * 285870213051353865 % 18446744073709551616 / 288230376151711744:Nat):Int):=by
  show Int.fdiv _ 288230376151711744=_
  rw [Int.fdiv_eq_ediv_of_nonneg _ (by decide)]; omega
 refine vstepT (.int .u64 ((2 ^ tzN n * 285870213051353865 % 18446744073709551616 / 288230376151711744:Nat):Int)) (fun _ h=>vop_shift (k:=.u64) (k':=.u64) (a:=((2 ^ tzN n * 285870213051353865 % 18446744073709551616:Nat):Int)) (b:=58) rfl rfl (by decide) (by rw [hshr]; exact h)) ?_
 have htab:=tab_at (tzN n) (tzN_spec hz h1).1
 have hlt:2 ^ tzN n * 285870213051353865 % 18446744073709551616 / 288230376151711744 < 64:=by omega
 generalize 2 ^ tzN n * 285870213051353865 % 18446744073709551616 / 288230376151711744=k at *
 refine vstepT (.pointer (some ⟨1,0 + (k:Int).toNat * 1,some 0⟩)) (fun _ h=>vop_arr (g:=1) (o:=0) (s:=0) (b:=k) (k':=.u64) rfl rfl (by omega) h) ?_
 have hv:vpart false 1 (Go.V.t64.map fun x=>Value.int .u8 x) (0 + (k:Int).toNat * 1)=some (.int .u8 (tzN n)):=by
  show (Go.V.t64.map fun x=>Value.int .u8 x)[0 + (k:Int).toNat * 1]?=_
  rw [Int.toNat_natCast,Nat.mul_one,Nat.zero_add,List.getElem?_map,htab]; rfl
 refine vstepT (.int .u8 (tzN n)) (fun _ h=>vop_load (g:=1) (s:=0) (o:=0 + (k:Int).toNat * 1) (c:=Go.V.t64.map fun x=>Value.int .u8 x) rfl rfl (by decide) hv h) ?_
 have ht64:=(tzN_spec hz h1).1
 have hwr:IntKind.i64.wrap (tzN n:Int)=tzN n:=InK.wrap (k:=.i64) ((InK_i64 _).2 (by omega))
 refine vstepT (.int .i64 (tzN n)) (fun _ h=>vop_conv (k:=.u8) (a:=tzN n) rfl (by rw [hwr]; exact h)) ?_
 refine vstepT (.int .i64 (tzN n)) (fun _ h=>h) ?_
 exact ⟨_,_,DropTo.refl _ _ _,hK⟩
theorem ret_plain0 {P:Program} {σ:Heap} {v:SV} {u:Value} (h:SR P hNil noPl noTb v u):Ret P σ v [] u σ :=
 ⟨⟨.refl _,Dead.refl _⟩,fun _=>rfl,noPl,fun j b hj=>by simp at hj,fun j j' i hj=>by simp at hj,h⟩
theorem canH_nil0 (σ:Heap):canH σ []=σ:=by
 unfold canH
 cases σ
 simp only [List.length_nil,Nat.add_zero,List.getElem?_nil,Option.bind_none,Heap.mk.injEq,and_true]
 funext i
 split
 ·rfl
 ·rename_i wf hi; exact (wf i (by simpa using hi)).symm
theorem okC_u64 {P:Program} {f:Nat} {pre:Int→Prop} {r:Int→Int} (h:∀ x,pre x→∀ (σ:Heap) (K:Value→Heap→Prop),K (.int .i64 (r x)) σ→VCalled P f [.int .u64 x] σ K) :
  OkC P f (mkSp (.one (.k (.i .u64)):AL Int) pre (fun d=>.val (.i .i64) (r d)) (fun _=>[])):=by
 intro ap hap σ args vs c v bs hargs hs hv hbs hc
 unfold mkSp at hs
 split at hs
 ·rename_i d hd
  obtain ⟨rfl,rfl,rfl⟩:=(by simpa using hs:pre d=c∧SV.val (.i .i64) (r d)=v∧[]=bs)
  match args,hargs,hd with
  | [],_,hd=>simp [AL.dec] at hd
  | a :: x :: l,_,hd=>simp [AL.dec] at hd
  | [a],hargs,hd =>
   simp only [AL.dec] at hd
   obtain ⟨u1,vs1,rfl,s1,hargs⟩:=hargs
   have hargs:vs1=[]:=hargs
   subst hargs
   have k1:KC σ (.i .u64) d [u1]:=deck_sound (k:=.i .u64) hd ⟨u1,[],rfl,s1,rfl⟩
   have e1:u1=.int .u64 d:=by simpa [KC] using k1
   subst e1
   refine ⟨h d hc σ _ (ret_plain0 (by simp [SR,KC])),fun _ _=>h d hc σ _ ⟨?_,(canH_nil0 σ).symm⟩⟩
   simp [cval,kenc]
 ·cases hs
theorem okC_never {P:Program} {f:Nat} {D:Type} {l:AL D} {pre:D→Prop} {res:D→SV} {obs:D→List OB} (h:∀ d,pre d→False):OkC P f (mkSp l pre res obs):=by
 intro ap hap σ args vs c v bs hargs hs hv hbs hc
 unfold mkSp at hs
 split at hs
 ·rename_i d hd
  have:pre d ↔ c:=by simp at hs; exact hs.1
  exact (h d (this.2 hc)).elim
 ·cases hs
end Go.Proofs.Tryz
set_option linter.unusedVariables false
namespace Go.Proofs.Tryz
open Go Go.V Go.Proofs
def al_math_bits_TrailingZeros64:AL (Int):=(.one (.k (.i .u64)))
def pre_math_bits_TrailingZeros64 (d:Int):Prop:=0 ≤ d∧d ≤ 18446744073709551615
def res_math_bits_TrailingZeros64 (d:Int):SV:=.val (.i .i64) ((tzN d.toNat:Nat):Int)
def obs_math_bits_TrailingZeros64 (d:Int):List OB:=[]
def s_math_bits_TrailingZeros64:CSp:=mkSp al_math_bits_TrailingZeros64 pre_math_bits_TrailingZeros64 res_math_bits_TrailingZeros64 obs_math_bits_TrailingZeros64
abbrev Ok_math_bits_TrailingZeros64:Prop:=OkC Tryz.prog 101 s_math_bits_TrailingZeros64
theorem ok_math_bits_TrailingZeros64:Ok_math_bits_TrailingZeros64 :=
 okC_u64 (pre:=fun x=>0 ≤ x∧x ≤ 18446744073709551615) (r:=fun x=>((tzN x.toNat:Nat):Int)) fun x hx σ K hK =>
  tz_run (f:=101) (by rw [show czT=c101 by kernel_rfl]; exact fun101) mixed hx.1 hx.2 hK
end Go.Proofs.Tryz
set_option linter.unusedVariables false
namespace Go.Proofs.Tryz
open Go Go.V Go.Proofs
def needOk (nc ng:Int):Bool:=inI nc 0 9 && inI ng 1 12000000
def openErr (l:List Lot) (tl:Int):Int:=if lotsErr l ≠ 0 then lotsErr l else if !inI tl 0 1000 then 3 else 0
def gramsL (l:List Lot) (S:List Int):Int:=S.foldl (fun a i=>a + (l.getD i.toNat lotD).2.2) 0
def alikeP (tl:Int) (p:List Lot):Bool:=!(p.any fun x=>x.1 != (p.getD 0 lotD).1) && decide ((sprD p).2 ≤ tl)
def alikeL (l:List Lot) (tl:Int) (S:List Int):Bool:=alikeP tl (pickL l S)
theorem tz_bit {n:Nat} (h0:0 < n) (h1:n < 2 ^ 64):n.testBit (tzN n)=true:=by
 obtain ⟨_,m,hm⟩:=tzN_spec h0 h1
 generalize tzN n=t at *
 rw [hm,Nat.testBit_two_pow_mul]
 simp
theorem setK_mem:∀ f n,n ≤ f→n < 2 ^ 64→∀ i:Int,i ∈ setK f n ↔ ∃ k:Nat,i=k∧n.testBit k=true
 | 0,n,h1,_,i=>by
  have:n=0:=by omega
  subst this
  simp [setK]
 | f + 1,n,h1,h2,i=>by
  unfold setK
  by_cases h:n=0
  ·subst h; simp
  ·rw [if_neg h,List.mem_cons]
   have hle:=Nat.and_le_right (n:=n) (m:=n - 1)
   rw [setK_mem f _ (by omega) (by omega)]
   constructor
   ·rintro (e | ⟨k,e,hb⟩)
    ·exact ⟨tzN n,e,tz_bit (by omega) h2⟩
    ·rw [clear_bit (by omega) h2] at hb
     exact ⟨k,e,by simp at hb; exact hb.1⟩
   ·rintro ⟨k,e,hb⟩
    by_cases hk:k=tzN n
    ·exact .inl (by rw [e,hk])
    ·exact .inr ⟨k,e,by rw [clear_bit (by omega) h2,hb,decide_eq_false hk]; rfl⟩
theorem setL_mem {n:Nat} (h:n < 2 ^ 64) (i:Int):i ∈ setL n ↔ ∃ k:Nat,i=k∧n.testBit k=true:=setK_mem n n (Nat.le_refl _) h i
theorem setK_len:∀ f n,(setK f n).length ≤ f
 | 0,_=>by simp [setK]
 | f + 1,n=>by
  unfold setK
  split
  ·simp
  ·simp only [List.length_cons]; have:=setK_len f (n &&& (n - 1)); omega
theorem setL_len (n:Nat):(setL n).length ≤ n:=setK_len n n
theorem setL_lt {n m:Nat} (h:n < 2 ^ m) (hm:m ≤ 64):∀ i ∈ setL n,0 ≤ i∧i < (m:Int):=fun i hi=>by
 have hp:2 ^ m ≤ 2 ^ 64:=Nat.pow_le_pow_right (by omega) hm
 obtain ⟨k,rfl,hb⟩:=(setL_mem (by omega) i).1 hi
 have:k < m:=by
  rcases Nat.lt_or_ge k m with h2 | h2
  ·exact h2
  ·rw [Nat.testBit_lt_two_pow (Nat.lt_of_lt_of_le h (Nat.pow_le_pow_right (by omega) h2))] at hb; cases hb
 omega
theorem setL_ne {n:Nat} (h:0 < n):setL n ≠ []:=by rw [setL_step h]; simp
theorem grams_snoc {l:List Lot} {S:List Int} {k:Nat} (h:k < S.length):gramsL l (S.take (k + 1))=gramsL l (S.take k) + (l.getD (S.getD k 0).toNat lotD).2.2:=by
 unfold gramsL; rw [take_succ_eq h,List.foldl_append,getD_nat h]; rfl
theorem setK_nodup:∀ f n,n ≤ f→n < 2 ^ 64→(setK f n).Nodup
 | 0,n,_,_=>by simp [setK]
 | f + 1,n,h1,h2=>by
  unfold setK
  by_cases h:n=0
  ·rw [if_pos h]; exact List.nodup_nil
  ·rw [if_neg h,List.nodup_cons]
   have hle:=Nat.and_le_right (n:=n) (m:=n - 1)
   refine ⟨fun hm=>?_,setK_nodup f _ (by omega) (by omega)⟩
   obtain ⟨k,e,hb⟩:=(setK_mem f _ (by omega) (by omega) _).1 hm
   rw [clear_bit (by omega) h2] at hb
   have:k=tzN n:=by omega
   rw [decide_eq_true this] at hb
   simp at hb
theorem nodup_lenS:∀ {l m:List Int},l.Nodup→(∀ x ∈ l,x ∈ m)→l.length ≤ m.length
 | [],_,_,_=>Nat.zero_le _
 | x :: l,m,hn,hs=>by
  have hn:=List.nodup_cons.1 hn
  have hx:=hs x (List.mem_cons_self ..)
  have:=nodup_lenS (l:=l) (m:=m.erase x) hn.2 fun y hy=>(List.mem_erase_of_ne (by rintro rfl; exact hn.1 hy)).2 (hs y (List.mem_cons_of_mem _ hy))
  rw [List.length_erase_of_mem hx] at this
  have:0 < m.length:=List.length_pos_of_mem hx
  simp only [List.length_cons]; omega
theorem setL_small {n m:Nat} (h:n < 2 ^ m) (hm:m ≤ 64):(setL n).length ≤ m:=by
 have hp:2 ^ m ≤ 2 ^ 64:=Nat.pow_le_pow_right (by omega) hm
 have:=nodup_lenS (m:=(List.range m).map fun (k:Nat)=>(k:Int)) (setK_nodup n n (Nat.le_refl _) (by omega)) fun x hx=>by
  obtain ⟨h1,h2⟩:=setL_lt h hm x hx
  simp only [List.mem_map,List.mem_range]
  exact ⟨x.toNat,by omega,by omega⟩
 simpa [setL] using this
def cmpI (a b:Int):Int:=if a < b then -1 else if b < a then 1 else 0
def orI (l:List Int):Int:=(l.find? fun x=>x != 0).getD 0
def cmpL:List Int→List Int→Int
 | [],[]=>0
 | [],_ :: _=>-1
 | _ :: _,[]=>1
 | x :: a,y :: b=>if cmpI x y ≠ 0 then cmpI x y else cmpL a b
theorem cmpI_zero {a b:Int}:cmpI a b=0 ↔ a=b:=by
 unfold cmpI; split <;> (try split) <;> omega
theorem cmpL_drop {a b:List Int}:∀ k,k ≤ a.length→k ≤ b.length→(∀ j,j < k→a.getD j 0=b.getD j 0)→cmpL a b=cmpL (a.drop k) (b.drop k)
 | 0,_,_,_=>by simp
 | k + 1,h1,h2,h=>by
  rw [cmpL_drop k (by omega) (by omega) fun j hj=>h j (by omega)]
  have e:=h k (by omega)
  rw [getD_nat (by omega),getD_nat (by omega)] at e
  rw [List.drop_eq_getElem_cons (show k < a.length by omega),List.drop_eq_getElem_cons (show k < b.length by omega),cmpL,if_neg (by rw [cmpI_zero.2 e]; decide)]
def fillOk (l:List Lot) (tl nc ng:Int) (s:Nat):Bool:=((l.getD ((setL s).getD 0 0).toNat lotD).1 == nc) && decide (ng ≤ gramsL l (setL s)) && alikeL l tl (setL s)
def lessF (a b:List Int):Bool:=decide (orI [cmpI a.length b.length,cmpL a b] < 0)
def fillK (l:List Lot) (tl nc ng:Int):Nat→List Int
 | 0=>[]
 | s + 1=>if s=0 then [] else if fillOk l tl nc ng s && ((fillK l tl nc ng s).isEmpty || lessF (setL s) (fillK l tl nc ng s)) then setL s else fillK l tl nc ng s
def fillErr (l:List Lot) (tl nc ng:Int):Int:=if openErr l tl ≠ 0 then openErr l tl else if !needOk nc ng then 2 else if (fillK l tl nc ng (2 ^ l.length)).isEmpty then 7 else 0
def fillW (l:List Lot) (tl nc ng:Int):List Int:=if openErr l tl ≠ 0 ∨ needOk nc ng=false then [] else fillK l tl nc ng (2 ^ l.length)
theorem fillK_len {l:List Lot} {tl nc ng:Int} (hl:l.length ≤ 64):∀ s,s ≤ 2 ^ l.length→(fillK l tl nc ng s).length ≤ l.length
 | 0,_=>by simp [fillK]
 | s + 1,h=>by
  unfold fillK
  split
  ·simp
  ·split
   ·exact setL_small (by omega) hl
   ·exact fillK_len hl s (by omega)
theorem fillOk_eq (l:List Lot) (tl nc ng:Int) (s:Nat):((((l.getD ((setL s).getD 0 0).toNat lotD).1 != nc) || decide (gramsL l (setL s) < ng)) || !alikeL l tl (setL s))=!fillOk l tl nc ng s:=by
 unfold fillOk
 rw [Bool.eq_iff_iff]
 simp only [Bool.or_eq_true,bne_iff_ne,decide_eq_true_eq,Bool.not_eq_true',Bool.and_eq_false_iff,beq_eq_false_iff_ne,decide_eq_false_iff_not,ne_eq]
 constructor
 ·rintro ((h | h) | h)
  ·exact .inl (.inl h)
  ·exact .inl (.inr (by omega))
  ·exact .inr h
 ·rintro ((h | h) | h)
  ·exact .inl (.inl h)
  ·exact .inl (.inr (by omega))
  ·exact .inr h
def al_math_bits_TrailingZeros32:AL (Int):=(.one (.k (.i .u32)))
def pre_math_bits_TrailingZeros32 (d:Int):Prop:=False
def res_math_bits_TrailingZeros32 (d:Int):SV:=.val (.i .i64) ((tzN d.toNat:Nat):Int)
def obs_math_bits_TrailingZeros32 (d:Int):List OB:=[]
def s_math_bits_TrailingZeros32:CSp:=mkSp al_math_bits_TrailingZeros32 pre_math_bits_TrailingZeros32 res_math_bits_TrailingZeros32 obs_math_bits_TrailingZeros32
abbrev Ok_math_bits_TrailingZeros32:Prop:=OkC Tryz.prog 100 s_math_bits_TrailingZeros32
theorem ok_math_bits_TrailingZeros32:Ok_math_bits_TrailingZeros32:=okC_never fun _ h=>h
def al_math_bits_TrailingZeros:AL (Int):=(.one (.k (.i .u64)))
def pre_math_bits_TrailingZeros (d:Int):Prop:=0 ≤ d∧d ≤ 18446744073709551615
def res_math_bits_TrailingZeros (d:Int):SV:=.val (.i .i64) ((tzN d.toNat:Nat):Int)
def obs_math_bits_TrailingZeros (d:Int):List OB:=[]
def s_math_bits_TrailingZeros:CSp:=mkSp al_math_bits_TrailingZeros pre_math_bits_TrailingZeros res_math_bits_TrailingZeros obs_math_bits_TrailingZeros
def vc_math_bits_TrailingZeros (x:Int):Prop :=
 (false=true →
  (InK .u32 x)∧(False)∧(((tzN x.toNat:Nat):Int)=((tzN x.toNat:Nat):Int)∧(True))) ∧
 (false=false →
  (0 ≤ x∧x ≤ 18446744073709551615)∧(((tzN x.toNat:Nat):Int)=((tzN x.toNat:Nat):Int)∧(True)))
def cx_math_bits_TrailingZeros:Cx:=⟨[],[(100,s_math_bits_TrailingZeros32),(101,s_math_bits_TrailingZeros64)],8,[],0,[],[],[],[],false,[],[],[]⟩
def lp_math_bits_TrailingZeros (x:Int):List (Nat × LoopAnn):=[]
set_option maxRecDepth 100000 in
theorem vq_math_bits_TrailingZeros (d:Int):gwp (cx_math_bits_TrailingZeros) (lp_math_bits_TrailingZeros d) c83 0 (gend [.tmp 2] (res_math_bits_TrailingZeros d) (obs_math_bits_TrailingZeros d)) (gstart 8 (AL.can al_math_bits_TrailingZeros d))=vc_math_bits_TrailingZeros d:=by kernel_rfl
abbrev Ok_math_bits_TrailingZeros:Prop:=OkC Tryz.prog 83 s_math_bits_TrailingZeros
theorem mk_math_bits_TrailingZeros (h:∀ (x:Int),(0 ≤ x∧x ≤ 18446744073709551615)→vc_math_bits_TrailingZeros x):OkC Tryz.prog 83 s_math_bits_TrailingZeros :=
 okC_vc fun83 mixed (C:=cx_math_bits_TrailingZeros) (V:=fun (d:Int)=>vc_math_bits_TrailingZeros d) ⟨(.cons ok_math_bits_TrailingZeros32 (.cons ok_math_bits_TrailingZeros64 .nil)),XsOk.nil,ItsOk.nil,YlOk.nil,IysOk.nil⟩ (vq_math_bits_TrailingZeros) fun d hp=>h d hp
theorem ok_math_bits_TrailingZeros:Ok_math_bits_TrailingZeros:=mk_math_bits_TrailingZeros fun x h=>by
 unfold vc_math_bits_TrailingZeros; (try delta lI gD sT I64)
 refine ⟨(fun h=>by cases h),fun _=>⟨h,?_⟩⟩
 and_intros <;> first | rfl | trivial
def al_shade_set_all:AL (Int):=(.one (.k (.i .u64)))
def pre_shade_set_all (d:Int):Prop:=0 ≤ d∧d ≤ 1048576
def res_shade_set_all (d:Int):SV:=.lst 0
def obs_shade_set_all (d:Int):List OB:=[.lst 3 (.i .i64) (setL d.toNat) ((setL d.toNat).isEmpty)]
def s_shade_set_all:CSp:=mkSp al_shade_set_all pre_shade_set_all res_shade_set_all obs_shade_set_all
def vc_shade_set_all (x:Int):Prop :=
 ∃ (e3:Unit) (d30:Int × (List Int)),((x=d30.1∧True∧True)∧((d30.2=[]∧(List.isEmpty d30.2)=true)∧True)) ∧
 LoopP (fun (d3:Int × (List Int)) (q3:(Int × (List Int))→Prop) =>
  ((d3.1 != (0:Int))=true →
   (0 ≤ d3.1∧d3.1 ≤ 18446744073709551615)∧(((List.length d3.2) + (List.length [((tzN d3.1.toNat:Nat):Int)])) * 8 ≤ 70368744177664)∧(InK .u64 (d3.1 - (1:Int)))∧(∃ d4:Int × (List Int),(((vbits .and .u64 d3.1 (d3.1 - (1:Int)))=d4.1∧True∧True)∧(((d3.2++[((tzN d3.1.toNat:Nat):Int)])=d4.2∧false=(List.isEmpty d4.2))∧True))∧q3 d4)) ∧
  ((d3.1 != (0:Int))=false →
   (True∧((d3.2=(setL x.toNat)∧(List.isEmpty d3.2)=(setL x.toNat).isEmpty)∧True)))) d30
def cx_shade_set_all:Cx:=⟨[(3,(.i .i64))],[(83,s_math_bits_TrailingZeros)],15,[],0,[],[],[],[],false,[],[],[]⟩
def lp_shade_set_all (x:Int):List (Nat × LoopAnn):=[(0,⟨Unit,Int × (List Int),[0,2],fun e x=>[.val (.i .u64) x.1,.lst 13],fun e x=>[(13,.slot 2,.lst 3 (.i .i64) x.2 (List.isEmpty x.2))]⟩)]
set_option maxRecDepth 100000 in
theorem vq_shade_set_all (d:Int):gwp (cx_shade_set_all) (lp_shade_set_all d) c56 0 (gend [.tmp 2] (res_shade_set_all d) (obs_shade_set_all d)) (gstart 15 (AL.can al_shade_set_all d))=vc_shade_set_all d:=by kernel_rfl
abbrev Ok_shade_set_all:Prop:=OkC Tryz.prog 56 s_shade_set_all
theorem mk_shade_set_all (h:∀ (x:Int),(0 ≤ x∧x ≤ 1048576)→vc_shade_set_all x):OkC Tryz.prog 56 s_shade_set_all :=
 okC_vc fun56 mixed (C:=cx_shade_set_all) (V:=fun (d:Int)=>vc_shade_set_all d) ⟨(.cons ok_math_bits_TrailingZeros .nil),XsOk.nil,ItsOk.nil,YlOk.nil,IysOk.nil⟩ (vq_shade_set_all) fun d hp=>h d hp
theorem ok_shade_set_all:Ok_shade_set_all:=mk_shade_set_all fun x h=>by
 obtain ⟨h1,h2⟩:=h
 unfold vc_shade_set_all; (try delta lI gD sT I64)
 obtain ⟨n,rfl⟩:=Int.eq_ofNat_of_zero_le h1
 rw [Int.toNat_natCast]
 have hln:=setL_len n
 refine ⟨(),((n:Int),[]),(by and_intros <;> first | rfl | trivial | simp),?_⟩
 refine ⟨fun d=>∃ s:Nat,d.1=s∧s ≤ n∧d.2++setL s=setL n,fun d=>d.1.toNat,⟨n,rfl,Nat.le_refl _,rfl⟩,?_⟩
 rintro ⟨_,L⟩ ⟨s,rfl,i1,i2⟩
 dsimp only at i2 ⊢
 simp only [bne_iff_ne,bne_eq_false_iff_eq,ne_eq,Int.toNat_natCast]
 refine ⟨fun h0=>?_,fun h0=>?_⟩
 ·have hs:0 < s:=by omega
  have e1:(s:Int) - 1=((s - 1:Nat):Int):=by omega
  have hst:=setL_step hs
  have hll:L.length + 1 ≤ n:=by
   have:=congrArg List.length i2
   rw [hst,List.length_append,List.length_cons] at this; omega
  have hle:=Nat.and_le_right (n:=s) (m:=s - 1)
  refine ⟨⟨by omega,by omega⟩,by simp only [List.length_cons,List.length_nil]; omega,by rw [InK_u64]; omega,(((s &&& (s - 1):Nat):Int),L++[((tzN s:Nat):Int)]),?_,⟨s &&& (s - 1),rfl,by omega,?_⟩,?_⟩
  ·rw [e1,vand_u64 (by omega) (by omega)]
   have:(L++[((tzN s:Nat):Int)]).isEmpty=false:=by simp
   and_intros <;> first | rfl | trivial | exact this.symm
  ·dsimp only
   rw [←i2,hst,List.append_assoc]; rfl
  ·dsimp only; omega
 ·have:s=0:=by omega
  subst this
  rw [setL_zero,List.append_nil] at i2
  subst i2
  and_intros <;> first | rfl | trivial
def al_shade_isNeed:AL (Int × Int):=(.one (.agg (.cons (.k (.i .i64)) (.one (.k (.i .i64))))))
def pre_shade_isNeed (d:Int × Int):Prop:=True
def res_shade_isNeed (d:Int × Int):SV:=.val .bo (needOk d.1 d.2)
def obs_shade_isNeed (d:Int × Int):List OB:=[]
def s_shade_isNeed:CSp:=mkSp al_shade_isNeed pre_shade_isNeed res_shade_isNeed obs_shade_isNeed
def vc_shade_isNeed (nc:Int) (ng:Int):Prop :=
 ([nc].length ≤ 1000000)∧((!([nc].any fun n=>decide (n < (0:Int)) || decide ((9:Int) < n)))=true→True)∧((!([nc].any fun n=>decide (n < (0:Int)) || decide ((9:Int) < n)))=true→[ng].length ≤ 1000000)∧(((!([nc].any fun n=>decide (n < (0:Int)) || decide ((9:Int) < n))) && (!([ng].any fun n=>decide (n < (1:Int)) || decide ((12000000:Int) < n))))=(needOk nc ng)∧(True))
def cx_shade_isNeed:Cx:=⟨[(3,(.i .i64))],[(61,s_shade_within)],13,[],0,[],[],[],[],false,[],[],[]⟩
def lp_shade_isNeed (nc:Int) (ng:Int):List (Nat × LoopAnn):=[]
set_option maxRecDepth 100000 in
theorem vq_shade_isNeed (d:Int × Int):gwp (cx_shade_isNeed) (lp_shade_isNeed d.1 d.2) c52 0 (gend [.tmp 2] (res_shade_isNeed d) (obs_shade_isNeed d)) (gstart 13 (AL.can al_shade_isNeed d))=vc_shade_isNeed d.1 d.2:=by kernel_rfl
abbrev Ok_shade_isNeed:Prop:=OkC Tryz.prog 52 s_shade_isNeed
theorem mk_shade_isNeed (h:∀ (nc:Int) (ng:Int),(True)→vc_shade_isNeed nc ng):OkC Tryz.prog 52 s_shade_isNeed :=
 okC_vc fun52 mixed (C:=cx_shade_isNeed) (V:=fun (d:Int × Int)=>vc_shade_isNeed d.1 d.2) ⟨(.cons ok_shade_within .nil),XsOk.nil,ItsOk.nil,YlOk.nil,IysOk.nil⟩ (vq_shade_isNeed) fun d hp=>h d.1 d.2 hp
theorem ok_shade_isNeed:Ok_shade_isNeed:=mk_shade_isNeed fun nc ng _=>by
 unfold vc_shade_isNeed; (try delta lI gD sT I64)
 have e:∀ n a b:Int,(decide (n < a) || decide (b < n))=!inI n a b:=fun n a b=>(nI n a b).symm
 simp only [List.any_cons,List.any_nil,Bool.or_false,e,Bool.not_not,List.length_cons,List.length_nil]
 refine ⟨by omega,fun _=>trivial,fun _=>by omega,?_⟩
 and_intros <;> first | rfl | trivial
def al_shade_store_grams:AL (((List (Int × (Int × Int) × Int)) × Int) × Int):=(.cons (.agg (.cons (.k (.list (.pair (.i .i64) (.pair (.pair (.i .i64) (.i .i64)) (.i .i64))))) (.one (.k (.i .i64))))) (.one (.k (.i .u64))))
def pre_shade_store_grams (d:((List (Int × (Int × Int) × Int)) × Int) × Int):Prop:=d.1.1.length ≤ 12∧(∀ y ∈ d.1.1,lotOk y=true)∧0 ≤ d.2∧d.2 < 2 ^ d.1.1.length
def res_shade_store_grams (d:((List (Int × (Int × Int) × Int)) × Int) × Int):SV:=.val (.i .i64) (gramsL d.1.1 (setL d.2.toNat))
def obs_shade_store_grams (d:((List (Int × (Int × Int) × Int)) × Int) × Int):List OB:=[]
def s_shade_store_grams:CSp:=mkSp al_shade_store_grams pre_shade_store_grams res_shade_store_grams obs_shade_store_grams
def vc_shade_store_grams (l:List (Int × (Int × Int) × Int)) (tl:Int) (sx:Int):Prop :=
 (0 ≤ sx∧sx ≤ 1048576)∧∃ (e3:Unit) (d30:Int × Int),((True∧(0:Int)=d30.1∧True∧(lI (setL sx.toNat))=(lI (setL sx.toNat))∧(0:Int)=d30.2∧True)∧((l=l∧tl=tl∧(([]:List SV)=[]))∧((setL sx.toNat)=(setL sx.toNat)∧(setL sx.toNat).isEmpty=(List.isEmpty (setL sx.toNat)))∧True)) ∧
 LoopP (fun (d3:Int × Int) (q3:(Int × Int)→Prop) =>
  ((decide (d3.2 < (lI (setL sx.toNat))))=true →
   (0 ≤ d3.2)∧(d3.2 < (List.length (setL sx.toNat)))∧(0 ≤ (gD (setL sx.toNat) d3.2 0))∧((gD (setL sx.toNat) d3.2 0) < (List.length l))∧(I64 (d3.1 + (gD l (gD (setL sx.toNat) d3.2 0) (0,((0,0),0))).2.2))∧(I64 (d3.2 + (1:Int)))∧(∃ d4:Int × Int,((True∧(d3.1 + (gD l (gD (setL sx.toNat) d3.2 0) (0,((0,0),0))).2.2)=d4.1∧True∧(lI (setL sx.toNat))=(lI (setL sx.toNat))∧(d3.2 + (1:Int))=d4.2∧True)∧((l=l∧tl=tl∧(([]:List SV)=[]))∧((setL sx.toNat)=(setL sx.toNat)∧(List.isEmpty (setL sx.toNat))=(List.isEmpty (setL sx.toNat)))∧True))∧q3 d4)) ∧
  ((decide (d3.2 < (lI (setL sx.toNat))))=false →
   (d3.1=(gramsL l (setL sx.toNat))∧(True)))) d30
def cx_shade_store_grams:Cx:=⟨[],[(56,s_shade_set_all)],24,[],0,[],[],[],[],false,[],[],[]⟩
def lp_shade_store_grams (l:List (Int × (Int × Int) × Int)) (tl:Int) (sx:Int):List (Nat × LoopAnn):=[(0,⟨Unit,Int × Int,[2,4,8,9,10],fun e x=>[.box 2 0,.val (.i .i64) x.1,.lst 8,.val (.i .i64) (((List.length (setL sx.toNat)):Nat):Int),.val (.i .i64) x.2],fun e x=>[(2,.slot 2,.cells [.val (.list (.pair (.i .i64) (.pair (.pair (.i .i64) (.i .i64)) (.i .i64)))) l,.val (.i .i64) tl] (some 105)),(8,.slot 8,.lst 3 (.i .i64) (setL sx.toNat) (List.isEmpty (setL sx.toNat)))]⟩)]
set_option maxRecDepth 100000 in
theorem vq_shade_store_grams (d:((List (Int × (Int × Int) × Int)) × Int) × Int):gwp (cx_shade_store_grams) (lp_shade_store_grams d.1.1 d.1.2 d.2) c78 0 (gend [.tmp 4] (res_shade_store_grams d) (obs_shade_store_grams d)) (gstart 24 (AL.can al_shade_store_grams d))=vc_shade_store_grams d.1.1 d.1.2 d.2:=by kernel_rfl
abbrev Ok_shade_store_grams:Prop:=OkC Tryz.prog 78 s_shade_store_grams
theorem mk_shade_store_grams (h:∀ (l:List (Int × (Int × Int) × Int)) (tl:Int) (sx:Int),(l.length ≤ 12∧(∀ y ∈ l,lotOk y=true)∧0 ≤ sx∧sx < 2 ^ l.length)→vc_shade_store_grams l tl sx):OkC Tryz.prog 78 s_shade_store_grams :=
 okC_vc fun78 mixed (C:=cx_shade_store_grams) (V:=fun (d:((List (Int × (Int × Int) × Int)) × Int) × Int)=>vc_shade_store_grams d.1.1 d.1.2 d.2) ⟨(.cons ok_shade_set_all .nil),XsOk.nil,ItsOk.nil,YlOk.nil,IysOk.nil⟩ (vq_shade_store_grams) fun d hp=>h d.1.1 d.1.2 d.2 hp
theorem ok_shade_store_grams:Ok_shade_store_grams:=mk_shade_store_grams fun l tl sx h=>by
 obtain ⟨h1,h2,h3,h4⟩:=h
 obtain ⟨n,rfl⟩:=Int.eq_ofNat_of_zero_le h3
 have hp:(2:Int) ^ l.length=((2 ^ l.length:Nat):Int):=by simp
 have hp2:2 ^ l.length ≤ 2 ^ 12:=Nat.pow_le_pow_right (by omega) h1
 have h12:(2:Nat) ^ 12=4096:=rfl
 rw [hp] at h4
 have hn:n < 2 ^ l.length:=by omega
 unfold vc_shade_store_grams; (try delta lI gD sT I64)
 rw [Int.toNat_natCast]
 have hlt:=setL_lt hn (by omega)
 have hln:=setL_len n
 generalize setL n=S at *
 simp only [decide_eq_true_eq,decide_eq_false_iff_not]
 refine ⟨⟨by omega,by omega⟩,(),(0,0),(by and_intros <;> first | rfl | trivial | simp),?_⟩
 refine LoopP.count2 S.length (fun k a=>a=gramsL l (S.take k)∧0 ≤ a∧a ≤ 1000000 * (k:Int)) ⟨rfl,by omega,by omega⟩ fun k a hk hJ q hq=>?_
 obtain ⟨rfl,j2,j3⟩:=hJ
 dsimp only
 have hd:∀ j,l.getD j (0,((0,0),0))=l.getD j lotD:=fun _=>rfl
 simp only [Int.toNat_natCast,hd]
 refine ⟨fun hlt2=>?_,fun hge=>?_⟩
 ·have hkS:k < S.length:=by omega
  have hm:=hlt _ (by rw [getD_nat hkS]; exact List.getElem_mem hkS:S.getD k 0 ∈ S)
  have hj:(S.getD k 0).toNat < l.length:=by omega
  have hg:=lotOk_iff.1 (h2 _ (List.getElem_mem hj))
  have hgr:1 ≤ (l.getD (S.getD k 0).toNat lotD).2.2∧(l.getD (S.getD k 0).toNat lotD).2.2 ≤ 1000000:=by rw [getD_nat hj]; omega
  have hs:=grams_snoc (l:=l) hkS
  refine ⟨by omega,hlt2,hm.1,hm.2,by rw [InK_i64]; omega,by rw [InK_i64]; omega,(gramsL l (S.take k) + (l.getD (S.getD k 0).toNat lotD).2.2,(k:Int) + 1),(by and_intros <;> first | rfl | trivial | simp),hq _ hkS ⟨hs.symm,by omega,by omega⟩⟩
 ·have:k=S.length:=by omega
  subst this
  rw [List.take_length]
  and_intros <;> first | rfl | trivial
end Go.Proofs.Tryz
set_option linter.unusedVariables false
namespace Go.Proofs.Tryz
open Go Go.V Go.Proofs
def al_shade_store_alike_1:AL ((Int × Int × Int × Int) × List (Int × (Int × Int) × Int)):=(.cons (.agg (.cons (.k (.i .i64)) (.cons (.k (.i .i64)) (.cons (.k (.i .i64)) (.one (.k (.i .i64))))))) (.one (.ptr (.one (.k (.list (.pair (.i .i64) (.pair (.pair (.i .i64) (.i .i64)) (.i .i64)))))))))
def pre_shade_store_alike_1 (d:(Int × Int × Int × Int) × List (Int × (Int × Int) × Int)):Prop:=d.2 ≠ []
def res_shade_store_alike_1 (d:(Int × Int × Int × Int) × List (Int × (Int × Int) × Int)):SV:=.val .bo (d.1.1 != (d.2.getD 0 lotD).1)
def obs_shade_store_alike_1 (d:(Int × Int × Int × Int) × List (Int × (Int × Int) × Int)):List OB:=[]
def s_shade_store_alike_1:CSp:=mkSp al_shade_store_alike_1 pre_shade_store_alike_1 res_shade_store_alike_1 obs_shade_store_alike_1
def vc_shade_store_alike_1 (lc:Int) (lo:Int) (hi:Int) (lg:Int) (l:List (Int × (Int × Int) × Int)):Prop :=
 (0 ≤ (0:Int))∧((0:Int) < (List.length l))∧((lc != (gD l (0:Int) (0,((0,0),0))).1)=(lc != (l.getD 0 lotD).1)∧(True))
def cx_shade_store_alike_1:Cx:=⟨[],[],11,[],0,[],[],[],[],false,[],[],[]⟩
def lp_shade_store_alike_1 (lc:Int) (lo:Int) (hi:Int) (lg:Int) (l:List (Int × (Int × Int) × Int)):List (Nat × LoopAnn):=[]
set_option maxRecDepth 100000 in
theorem vq_shade_store_alike_1 (d:(Int × Int × Int × Int) × List (Int × (Int × Int) × Int)):gwp (cx_shade_store_alike_1) (lp_shade_store_alike_1 d.1.1 d.1.2.1 d.1.2.2.1 d.1.2.2.2 d.2) c98 0 (gend [.tmp 3] (res_shade_store_alike_1 d) (obs_shade_store_alike_1 d)) (gstart 11 (AL.can al_shade_store_alike_1 d))=vc_shade_store_alike_1 d.1.1 d.1.2.1 d.1.2.2.1 d.1.2.2.2 d.2:=by kernel_rfl
abbrev Ok_shade_store_alike_1:Prop:=OkC Tryz.prog 98 s_shade_store_alike_1
theorem mk_shade_store_alike_1 (h:∀ (lc:Int) (lo:Int) (hi:Int) (lg:Int) (l:List (Int × (Int × Int) × Int)),(l ≠ [])→vc_shade_store_alike_1 lc lo hi lg l):OkC Tryz.prog 98 s_shade_store_alike_1 :=
 okC_vc fun98 mixed (C:=cx_shade_store_alike_1) (V:=fun (d:(Int × Int × Int × Int) × List (Int × (Int × Int) × Int))=>vc_shade_store_alike_1 d.1.1 d.1.2.1 d.1.2.2.1 d.1.2.2.2 d.2) ⟨.nil,XsOk.nil,ItsOk.nil,YlOk.nil,IysOk.nil⟩ (vq_shade_store_alike_1) fun d hp=>h d.1.1 d.1.2.1 d.1.2.2.1 d.1.2.2.2 d.2 hp
theorem ok_shade_store_alike_1:Ok_shade_store_alike_1:=mk_shade_store_alike_1 fun lc lo hi lg l h=>by
 unfold vc_shade_store_alike_1; (try delta lI gD sT I64)
 have hp:0 < l.length:=List.length_pos_iff.2 h
 refine ⟨by omega,by omega,?_⟩
 and_intros <;> first | rfl | trivial
def al_shade_store_alike:AL (((List (Int × (Int × Int) × Int)) × Int) × Int):=(.cons (.agg (.cons (.k (.list (.pair (.i .i64) (.pair (.pair (.i .i64) (.i .i64)) (.i .i64))))) (.one (.k (.i .i64))))) (.one (.k (.i .u64))))
def pre_shade_store_alike (d:((List (Int × (Int × Int) × Int)) × Int) × Int):Prop:=d.1.1.length ≤ 12∧(∀ y ∈ d.1.1,lotOk y=true)∧0 < d.2∧d.2 < 2 ^ d.1.1.length
def res_shade_store_alike (d:((List (Int × (Int × Int) × Int)) × Int) × Int):SV:=.val .bo (alikeL d.1.1 d.1.2 (setL d.2.toNat))
def obs_shade_store_alike (d:((List (Int × (Int × Int) × Int)) × Int) × Int):List OB:=[]
def s_shade_store_alike:CSp:=mkSp al_shade_store_alike pre_shade_store_alike res_shade_store_alike obs_shade_store_alike
def vc_shade_store_alike (l:List (Int × (Int × Int) × Int)) (tl:Int) (sx:Int):Prop :=
 (0 ≤ sx∧sx ≤ 1048576)∧∃ (e4:Unit) (d40:(List (Int × (Int × Int) × Int)) × Int),((True∧True∧True∧(lI (setL sx.toNat))=(lI (setL sx.toNat))∧(0:Int)=d40.2∧True)∧((l=l∧tl=tl∧(([]:List SV)=[]))∧(True∧(([]:List SV)=[]))∧(d40.1=[]∧(List.isEmpty d40.1)=true)∧((setL sx.toNat)=(setL sx.toNat)∧(setL sx.toNat).isEmpty=(List.isEmpty (setL sx.toNat)))∧True)) ∧
 LoopP (fun (d4:(List (Int × (Int × Int) × Int)) × Int) (q4:((List (Int × (Int × Int) × Int)) × Int)→Prop) =>
  ((decide (d4.2 < (lI (setL sx.toNat))))=true →
   (0 ≤ d4.2)∧(d4.2 < (List.length (setL sx.toNat)))∧(0 ≤ (gD (setL sx.toNat) d4.2 0))∧((gD (setL sx.toNat) d4.2 0) < (List.length l))∧(((List.length d4.1) + (List.length [((gD l (gD (setL sx.toNat) d4.2 0) (0,((0,0),0))).1,(((gD l (gD (setL sx.toNat) d4.2 0) (0,((0,0),0))).2.1.1,(gD l (gD (setL sx.toNat) d4.2 0) (0,((0,0),0))).2.1.2),(gD l (gD (setL sx.toNat) d4.2 0) (0,((0,0),0))).2.2))])) * 32 ≤ 70368744177664)∧(I64 (d4.2 + (1:Int)))∧(∃ d5:(List (Int × (Int × Int) × Int)) × Int,((True∧True∧True∧(lI (setL sx.toNat))=(lI (setL sx.toNat))∧(d4.2 + (1:Int))=d5.2∧True)∧((l=l∧tl=tl∧(([]:List SV)=[]))∧(True∧(([]:List SV)=[]))∧((d4.1++[((gD l (gD (setL sx.toNat) d4.2 0) (0,((0,0),0))).1,(((gD l (gD (setL sx.toNat) d4.2 0) (0,((0,0),0))).2.1.1,(gD l (gD (setL sx.toNat) d4.2 0) (0,((0,0),0))).2.1.2),(gD l (gD (setL sx.toNat) d4.2 0) (0,((0,0),0))).2.2))])=d5.1∧false=(List.isEmpty d5.1))∧((setL sx.toNat)=(setL sx.toNat)∧(List.isEmpty (setL sx.toNat))=(List.isEmpty (setL sx.toNat)))∧True))∧q4 d5)) ∧
  ((decide (d4.2 < (lI (setL sx.toNat))))=false →
   (d4.1.length ≤ 1000000∧∀ x ∈ d4.1,(fun (x1:Int × (Int × Int) × Int)=>d4.1 ≠ []) x)∧((!(d4.1.any (fun (x1:Int × (Int × Int) × Int)=>(x1.1 != (d4.1.getD 0 lotD).1))))=true→d4.1 ≠ []∧d4.1.length ≤ 1000∧∀ x ∈ d4.1,lotOk x=true)∧(((!(d4.1.any (fun (x1:Int × (Int × Int) × Int)=>(x1.1 != (d4.1.getD 0 lotD).1)))) && (decide (((sprD d4.1).2) ≤ tl)))=(alikeL l tl (setL sx.toNat))∧(True)))) d40
def cx_shade_store_alike:Cx:=⟨[(78,(.pair (.i .i64) (.pair (.pair (.i .i64) (.i .i64)) (.i .i64))))],[(56,s_shade_set_all),(90,s_slices_ContainsFunc_api_ShadeLot_api_ShadeLot),(98,s_shade_store_alike_1),(70,s_shade_spread)],38,[],0,[],[],[],[],false,[],[],[]⟩
def lp_shade_store_alike (l:List (Int × (Int × Int) × Int)) (tl:Int) (sx:Int):List (Nat × LoopAnn):=[(0,⟨Unit,(List (Int × (Int × Int) × Int)) × Int,[2,5,10,11,12],fun e x=>[.box 2 0,.box 5 0,.lst 10,.val (.i .i64) (((List.length (setL sx.toNat)):Nat):Int),.val (.i .i64) x.2],fun e x=>[(2,.slot 2,.cells [.val (.list (.pair (.i .i64) (.pair (.pair (.i .i64) (.i .i64)) (.i .i64)))) l,.val (.i .i64) tl] (some 105)),(5,.slot 5,.cells [.lst 23] (some 22)),(23,.cell 5 0,.lst 78 (.pair (.i .i64) (.pair (.pair (.i .i64) (.i .i64)) (.i .i64))) x.1 (List.isEmpty x.1)),(10,.slot 10,.lst 3 (.i .i64) (setL sx.toNat) (List.isEmpty (setL sx.toNat)))]⟩)]
set_option maxRecDepth 100000 in
theorem vq_shade_store_alike (d:((List (Int × (Int × Int) × Int)) × Int) × Int):gwp (cx_shade_store_alike) (lp_shade_store_alike d.1.1 d.1.2 d.2) c79 0 (gend [.tmp 4] (res_shade_store_alike d) (obs_shade_store_alike d)) (gstart 38 (AL.can al_shade_store_alike d))=vc_shade_store_alike d.1.1 d.1.2 d.2:=by kernel_rfl
abbrev Ok_shade_store_alike:Prop:=OkC Tryz.prog 79 s_shade_store_alike
theorem mk_shade_store_alike (h:∀ (l:List (Int × (Int × Int) × Int)) (tl:Int) (sx:Int),(l.length ≤ 12∧(∀ y ∈ l,lotOk y=true)∧0 < sx∧sx < 2 ^ l.length)→vc_shade_store_alike l tl sx):OkC Tryz.prog 79 s_shade_store_alike :=
 okC_vc fun79 mixed (C:=cx_shade_store_alike) (V:=fun (d:((List (Int × (Int × Int) × Int)) × Int) × Int)=>vc_shade_store_alike d.1.1 d.1.2 d.2) ⟨(.cons ok_shade_set_all (.cons ok_slices_ContainsFunc_api_ShadeLot_api_ShadeLot (.cons ok_shade_store_alike_1 (.cons ok_shade_spread .nil)))),XsOk.nil,ItsOk.nil,YlOk.nil,IysOk.nil⟩ (vq_shade_store_alike) fun d hp=>h d.1.1 d.1.2 d.2 hp
end Go.Proofs.Tryz
set_option linter.unusedVariables false
namespace Go.Proofs.Tryz
open Go Go.V Go.Proofs
theorem ok_shade_store_alike:Ok_shade_store_alike:=mk_shade_store_alike fun l tl sx h=>by
 obtain ⟨h1,h2,h3,h4⟩:=h
 obtain ⟨n,rfl⟩:=Int.eq_ofNat_of_zero_le (show 0 ≤ sx by omega)
 have hp:(2:Int) ^ l.length=((2 ^ l.length:Nat):Int):=by simp
 have hp2:2 ^ l.length ≤ 2 ^ 12:=Nat.pow_le_pow_right (by omega) h1
 have h12:(2:Nat) ^ 12=4096:=rfl
 rw [hp] at h4
 have hn:n < 2 ^ l.length:=by omega
 unfold vc_shade_store_alike; (try delta lI gD sT I64)
 rw [Int.toNat_natCast]
 have hlt:=setL_lt hn (by omega)
 have hln:=setL_small hn (by omega)
 have hne:=setL_ne (show 0 < n by omega)
 generalize setL n=S at *
 have hpne:pickL l S ≠ []:=by simpa [pickL] using hne
 have hpok:=pickL_ok h2 hlt
 have hpl:∀ k,(pickL l (S.take k)).length=min k S.length:=fun k=>by simp [pickL]
 simp only [decide_eq_true_eq,decide_eq_false_iff_not]
 refine ⟨⟨by omega,by omega⟩,(),([],0),(by and_intros <;> first | rfl | trivial | simp),?_⟩
 refine LoopP.count2 S.length (fun k L=>L=pickL l (S.take k)) rfl fun k L hk hJ q hq=>?_
 subst hJ
 dsimp only
 have hd:∀ j,l.getD j (0,((0,0),0))=l.getD j lotD:=fun _=>rfl
 simp only [Int.toNat_natCast,hd]
 refine ⟨fun hlt2=>?_,fun hge=>?_⟩
 ·have hkS:k < S.length:=by omega
  have hm:=hlt _ (by rw [getD_nat hkS]; exact List.getElem_mem hkS:S.getD k 0 ∈ S)
  refine ⟨by omega,hlt2,hm.1,hm.2,by simp only [hpl,List.length_cons,List.length_nil]; omega,by rw [InK_i64]; omega,(pickL l (S.take (k + 1)),(k:Int) + 1),?_,hq _ hkS rfl⟩
  rw [pickL_snoc hkS]
  have:((pickL l (S.take k)++[l.getD (S.getD k 0).toNat lotD]).isEmpty)=false:=by simp
  and_intros <;> first | rfl | trivial | exact this.symm
 ·have:k=S.length:=by omega
  subst this
  have hl0:=hpl S.length
  rw [List.take_length] at *
  refine ⟨⟨by omega,fun _ _=>hpne⟩,fun _=>⟨hpne,by omega,hpok⟩,?_⟩
  and_intros <;> first | rfl | trivial
end Go.Proofs.Tryz
set_option linter.unusedVariables false
namespace Go.Proofs.Tryz
open Go Go.V Go.Proofs
def al_cmp_isNaN_int:AL (Int):=(.one (.k (.i .i64)))
def pre_cmp_isNaN_int (d:Int):Prop:=True
def res_cmp_isNaN_int (d:Int):SV:=.val .bo false
def obs_cmp_isNaN_int (d:Int):List OB:=[]
def s_cmp_isNaN_int:CSp:=mkSp al_cmp_isNaN_int pre_cmp_isNaN_int res_cmp_isNaN_int obs_cmp_isNaN_int
def vc_cmp_isNaN_int (a:Int):Prop :=
 ((a != a)=false∧(True))
def cx_cmp_isNaN_int:Cx:=⟨[],[],6,[],0,[],[],[],[],false,[],[],[]⟩
def lp_cmp_isNaN_int (a:Int):List (Nat × LoopAnn):=[]
set_option maxRecDepth 100000 in
theorem vq_cmp_isNaN_int (d:Int):gwp (cx_cmp_isNaN_int) (lp_cmp_isNaN_int d) c99 0 (gend [.tmp 2] (res_cmp_isNaN_int d) (obs_cmp_isNaN_int d)) (gstart 6 (AL.can al_cmp_isNaN_int d))=vc_cmp_isNaN_int d:=by kernel_rfl
abbrev Ok_cmp_isNaN_int:Prop:=OkC Tryz.prog 99 s_cmp_isNaN_int
theorem mk_cmp_isNaN_int (h:∀ (a:Int),(True)→vc_cmp_isNaN_int a):OkC Tryz.prog 99 s_cmp_isNaN_int :=
 okC_vc fun99 mixed (C:=cx_cmp_isNaN_int) (V:=fun (d:Int)=>vc_cmp_isNaN_int d) ⟨.nil,XsOk.nil,ItsOk.nil,YlOk.nil,IysOk.nil⟩ (vq_cmp_isNaN_int) fun d hp=>h d hp
theorem ok_cmp_isNaN_int:Ok_cmp_isNaN_int:=mk_cmp_isNaN_int fun a _=>by
 unfold vc_cmp_isNaN_int; (try delta lI gD sT I64)
 simp
def al_cmp_Compare_int:AL (Int × Int):=(.cons (.k (.i .i64)) (.one (.k (.i .i64))))
def pre_cmp_Compare_int (d:Int × Int):Prop:=True
def res_cmp_Compare_int (d:Int × Int):SV:=.val (.i .i64) (cmpI d.1 d.2)
def obs_cmp_Compare_int (d:Int × Int):List OB:=[]
def s_cmp_Compare_int:CSp:=mkSp al_cmp_Compare_int pre_cmp_Compare_int res_cmp_Compare_int obs_cmp_Compare_int
def vc_cmp_Compare_int (a:Int) (b:Int):Prop :=
 (True)∧(True)∧(false=true →
  (false=true →
   ((0:Int)=(cmpI a b)∧(True))) ∧
  (false=false →
   ((-1:Int)=(cmpI a b)∧(True)))) ∧
 (false=false →
  (false=true →
   ((1:Int)=(cmpI a b)∧(True))) ∧
  (false=false →
   ((decide (a < b))=true →
    ((-1:Int)=(cmpI a b)∧(True))) ∧
   ((decide (a < b))=false →
    ((decide (a > b))=true →
     ((1:Int)=(cmpI a b)∧(True))) ∧
    ((decide (a > b))=false →
     ((0:Int)=(cmpI a b)∧(True))))))
def cx_cmp_Compare_int:Cx:=⟨[],[(99,s_cmp_isNaN_int)],20,[],0,[],[],[],[],false,[],[],[]⟩
def lp_cmp_Compare_int (a:Int) (b:Int):List (Nat × LoopAnn):=[]
set_option maxRecDepth 100000 in
theorem vq_cmp_Compare_int (d:Int × Int):gwp (cx_cmp_Compare_int) (lp_cmp_Compare_int d.1 d.2) c81 0 (gend [.tmp 4] (res_cmp_Compare_int d) (obs_cmp_Compare_int d)) (gstart 20 (AL.can al_cmp_Compare_int d))=vc_cmp_Compare_int d.1 d.2:=by kernel_rfl
abbrev Ok_cmp_Compare_int:Prop:=OkC Tryz.prog 81 s_cmp_Compare_int
theorem mk_cmp_Compare_int (h:∀ (a:Int) (b:Int),(True)→vc_cmp_Compare_int a b):OkC Tryz.prog 81 s_cmp_Compare_int :=
 okC_vc fun81 mixed (C:=cx_cmp_Compare_int) (V:=fun (d:Int × Int)=>vc_cmp_Compare_int d.1 d.2) ⟨(.cons ok_cmp_isNaN_int .nil),XsOk.nil,ItsOk.nil,YlOk.nil,IysOk.nil⟩ (vq_cmp_Compare_int) fun d hp=>h d.1 d.2 hp
theorem ok_cmp_Compare_int:Ok_cmp_Compare_int:=mk_cmp_Compare_int fun a b _=>by
 unfold vc_cmp_Compare_int; (try delta lI gD sT I64)
 simp only [decide_eq_true_eq,decide_eq_false_iff_not,true_and,and_true,decide_eq_true_eq,decide_eq_false_iff_not,gt_iff_lt,false_implies,Bool.false_eq_true,forall_const]
 unfold cmpI
 refine ⟨fun h=>?_,fun h=>⟨fun h2=>?_,fun h2=>?_⟩⟩
 ·rw [if_pos h]
 ·rw [if_neg h,if_pos h2]
 ·rw [if_neg h,if_neg h2]
def al_cmp_Or_int:AL (List Int):=(.one (.k (.list (.i .i64))))
def pre_cmp_Or_int (d:List Int):Prop:=d.length ≤ 1000
def res_cmp_Or_int (d:List Int):SV:=.val (.i .i64) (orI d)
def obs_cmp_Or_int (d:List Int):List OB:=[]
def s_cmp_Or_int:CSp:=mkSp al_cmp_Or_int pre_cmp_Or_int res_cmp_Or_int obs_cmp_Or_int
def vc_cmp_Or_int (l:List Int):Prop :=
 ∃ (e2:Unit) (d20:Int),(((0:Int)=(0:Int)∧l=l∧(lI l)=(lI l)∧(0:Int)=d20∧True)∧(True)) ∧
 LoopP (fun (d2:Int) (q2:(Int)→Prop) =>
  ((decide (d2 < (lI l)))=true →
   (0 ≤ d2)∧(d2 < (List.length l))∧(((gD l d2 0) != (0:Int))=true →
    ((gD l d2 0)=(orI l)∧(True))) ∧
   (((gD l d2 0) != (0:Int))=false →
    (I64 (d2 + (1:Int)))∧(∃ d3:Int,(((0:Int)=(0:Int)∧l=l∧(lI l)=(lI l)∧(d2 + (1:Int))=d3∧True)∧(True))∧q2 d3))) ∧
  ((decide (d2 < (lI l)))=false →
   ((0:Int)=(orI l)∧(True)))) d20
def cx_cmp_Or_int:Cx:=⟨[],[],18,[],0,[],[],[],[],false,[],[],[]⟩
def lp_cmp_Or_int (l:List Int):List (Nat × LoopAnn):=[(0,⟨Unit,Int,[3,6,7,8],fun e x=>[.val (.i .i64) (0:Int),.val (.list (.i .i64)) l,.val (.i .i64) (((List.length l):Nat):Int),.val (.i .i64) x],fun e x=>[]⟩)]
set_option maxRecDepth 100000 in
theorem vq_cmp_Or_int (d:List Int):gwp (cx_cmp_Or_int) (lp_cmp_Or_int d) c80 0 (gend [.tmp 2] (res_cmp_Or_int d) (obs_cmp_Or_int d)) (gstart 18 (AL.can al_cmp_Or_int d))=vc_cmp_Or_int d:=by kernel_rfl
abbrev Ok_cmp_Or_int:Prop:=OkC Tryz.prog 80 s_cmp_Or_int
theorem mk_cmp_Or_int (h:∀ (l:List Int),(l.length ≤ 1000)→vc_cmp_Or_int l):OkC Tryz.prog 80 s_cmp_Or_int :=
 okC_vc fun80 mixed (C:=cx_cmp_Or_int) (V:=fun (d:List Int)=>vc_cmp_Or_int d) ⟨.nil,XsOk.nil,ItsOk.nil,YlOk.nil,IysOk.nil⟩ (vq_cmp_Or_int) fun d hp=>h d hp
theorem ok_cmp_Or_int:Ok_cmp_Or_int:=mk_cmp_Or_int fun l h=>by
 unfold vc_cmp_Or_int; (try delta lI gD sT I64)
 simp only [decide_eq_true_eq,decide_eq_false_iff_not]
 refine ⟨(),0,(by and_intros <;> first | rfl | trivial | simp),?_⟩
 refine LoopP.count l.length (fun k=>∀ j,j < k→l.getD j 0=0) (fun j hj=>by omega) fun k hk hJ q hq=>?_
 simp only [Int.toNat_natCast]
 refine ⟨fun hlt=>?_,fun hge=>?_⟩
 ·have hkl:k < l.length:=by omega
  refine ⟨by omega,hlt,fun hx=>?_,fun hx=>⟨by rw [InK_i64]; omega,_,(by and_intros <;> first | rfl | trivial | simp),hq hkl fun j hj=>?_⟩⟩
  ·have hf:l.find? (fun x=>x != 0)=some l[k]:=by
    rw [List.find?_eq_some_iff_getElem]
    rw [getD_nat hkl] at hx
    refine ⟨hx,k,hkl,rfl,fun j hj=>?_⟩
    have:=hJ j hj
    rw [getD_nat (by omega)] at this
    simp [this]
   refine ⟨?_,trivial⟩
   unfold orI; rw [hf,getD_nat hkl]; rfl
  ·rcases Nat.lt_succ_iff_lt_or_eq.1 hj with hj | rfl
   ·exact hJ j hj
   ·simpa using hx
 ·have hf:l.find? (fun x=>x != 0)=none:=by
   rw [List.find?_eq_none]
   intro x hx
   obtain ⟨j,hj,rfl⟩:=List.getElem_of_mem hx
   have:=hJ j (by omega)
   rw [getD_nat hj] at this
   simp [this]
  refine ⟨?_,trivial⟩
  unfold orI; rw [hf]; rfl
def al_slices_Compare_int_int:AL (List Int × List Int):=(.cons (.k (.list (.i .i64))) (.one (.k (.list (.i .i64)))))
def pre_slices_Compare_int_int (d:List Int × List Int):Prop:=d.1.length ≤ 1000∧d.2.length ≤ 1000
def res_slices_Compare_int_int (d:List Int × List Int):SV:=.val (.i .i64) (cmpL d.1 d.2)
def obs_slices_Compare_int_int (d:List Int × List Int):List OB:=[]
def s_slices_Compare_int_int:CSp:=mkSp al_slices_Compare_int_int pre_slices_Compare_int_int res_slices_Compare_int_int obs_slices_Compare_int_int
def vc_slices_Compare_int_int (a:List Int) (b:List Int):Prop :=
 ∃ (e2:Unit) (d20:Int),((a=a∧b=b∧a=a∧(lI a)=(lI a)∧(0:Int)=d20∧True)∧(True)) ∧
 LoopP (fun (d2:Int) (q2:(Int)→Prop) =>
  ((decide (d2 < (lI a)))=true →
   (0 ≤ d2)∧(d2 < (List.length a))∧((decide (d2 ≥ (lI b)))=true →
    ((1:Int)=(cmpL a b)∧(True))) ∧
   ((decide (d2 ≥ (lI b)))=false →
    (0 ≤ d2)∧(d2 < (List.length b))∧(True)∧(((cmpI (gD a d2 0) (gD b d2 0)) != (0:Int))=true →
     ((cmpI (gD a d2 0) (gD b d2 0))=(cmpL a b)∧(True))) ∧
    (((cmpI (gD a d2 0) (gD b d2 0)) != (0:Int))=false →
     (I64 (d2 + (1:Int)))∧(∃ d3:Int,((a=a∧b=b∧a=a∧(lI a)=(lI a)∧(d2 + (1:Int))=d3∧True)∧(True))∧q2 d3)))) ∧
  ((decide (d2 < (lI a)))=false →
   ((decide ((lI a) < (lI b)))=true →
    ((-1:Int)=(cmpL a b)∧(True))) ∧
   ((decide ((lI a) < (lI b)))=false →
    ((0:Int)=(cmpL a b)∧(True))))) d20
def cx_slices_Compare_int_int:Cx:=⟨[],[(81,s_cmp_Compare_int)],36,[],0,[],[],[],[],false,[],[],[]⟩
def lp_slices_Compare_int_int (a:List Int) (b:List Int):List (Nat × LoopAnn):=[(0,⟨Unit,Int,[0,1,9,10,11],fun e x=>[.val (.list (.i .i64)) a,.val (.list (.i .i64)) b,.val (.list (.i .i64)) a,.val (.i .i64) (((List.length a):Nat):Int),.val (.i .i64) x],fun e x=>[]⟩)]
set_option maxRecDepth 100000 in
theorem vq_slices_Compare_int_int (d:List Int × List Int):gwp (cx_slices_Compare_int_int) (lp_slices_Compare_int_int d.1 d.2) c82 0 (gend [.tmp 4] (res_slices_Compare_int_int d) (obs_slices_Compare_int_int d)) (gstart 36 (AL.can al_slices_Compare_int_int d))=vc_slices_Compare_int_int d.1 d.2:=by kernel_rfl
abbrev Ok_slices_Compare_int_int:Prop:=OkC Tryz.prog 82 s_slices_Compare_int_int
theorem mk_slices_Compare_int_int (h:∀ (a:List Int) (b:List Int),(a.length ≤ 1000∧b.length ≤ 1000)→vc_slices_Compare_int_int a b):OkC Tryz.prog 82 s_slices_Compare_int_int :=
 okC_vc fun82 mixed (C:=cx_slices_Compare_int_int) (V:=fun (d:List Int × List Int)=>vc_slices_Compare_int_int d.1 d.2) ⟨(.cons ok_cmp_Compare_int .nil),XsOk.nil,ItsOk.nil,YlOk.nil,IysOk.nil⟩ (vq_slices_Compare_int_int) fun d hp=>h d.1 d.2 hp
theorem ok_slices_Compare_int_int:Ok_slices_Compare_int_int:=mk_slices_Compare_int_int fun a b h=>by
 obtain ⟨h1,h2⟩:=h
 unfold vc_slices_Compare_int_int; (try delta lI gD sT I64)
 simp only [decide_eq_true_eq,decide_eq_false_iff_not]
 refine ⟨(),0,(by and_intros <;> first | rfl | trivial | simp),?_⟩
 refine LoopP.count a.length (fun k=>k ≤ b.length∧∀ j,j < k→a.getD j 0=b.getD j 0) ⟨by omega,fun j hj=>by omega⟩ fun k hk hJ q hq=>?_
 obtain ⟨j1,j2⟩:=hJ
 have hc:=cmpL_drop k hk j1 j2
 simp only [Int.toNat_natCast]
 refine ⟨fun hlt=>?_,fun hge=>?_⟩
 ·have hkl:k < a.length:=by omega
  rw [List.drop_eq_getElem_cons hkl] at hc
  refine ⟨by omega,hlt,fun h3=>?_,fun h3=>?_⟩
  ·rw [List.drop_eq_nil_of_le (show b.length ≤ k by omega)] at hc
   rw [hc]; exact ⟨rfl,trivial⟩
  ·have hkb:k < b.length:=by omega
   rw [List.drop_eq_getElem_cons hkb,cmpL] at hc
   rw [getD_nat hkl,getD_nat hkb]
   refine ⟨by omega,by omega,trivial,fun hx=>?_,fun hx=>⟨by rw [InK_i64]; omega,_,(by and_intros <;> first | rfl | trivial | simp),hq hkl ⟨by omega,fun j hj=>?_⟩⟩⟩
   ·have hx:cmpI a[k] b[k] ≠ 0:=by simpa using hx
    rw [hc,if_pos hx]; exact ⟨rfl,trivial⟩
   ·rcases Nat.lt_succ_iff_lt_or_eq.1 hj with hj | rfl
    ·exact j2 j hj
    ·rw [getD_nat hkl,getD_nat hkb]
     exact cmpI_zero.1 (by simpa using hx)
 ·have:k=a.length:=by omega
  subst this
  rw [List.drop_length] at hc
  refine ⟨fun h3=>?_,fun h3=>?_⟩
  ·rw [List.drop_eq_getElem_cons (show a.length < b.length by omega)] at hc
   rw [hc]; exact ⟨rfl,trivial⟩
  ·rw [List.drop_eq_nil_of_le (show b.length ≤ a.length by omega)] at hc
   rw [hc]; exact ⟨rfl,trivial⟩
end Go.Proofs.Tryz
set_option linter.unusedVariables false
namespace Go.Proofs.Tryz
open Go Go.V Go.Proofs
def al_shade_store_fill:AL (((List (Int × (Int × Int) × Int)) × Int) × Int × Int):=(.cons (.agg (.cons (.k (.list (.pair (.i .i64) (.pair (.pair (.i .i64) (.i .i64)) (.i .i64))))) (.one (.k (.i .i64))))) (.one (.agg (.cons (.k (.i .i64)) (.one (.k (.i .i64)))))))
def pre_shade_store_fill (d:((List (Int × (Int × Int) × Int)) × Int) × Int × Int):Prop:=d.1.1.length ≤ 12∧(∀ y ∈ d.1.1,lotOk y=true)
def res_shade_store_fill (d:((List (Int × (Int × Int) × Int)) × Int) × Int × Int):SV:=.tup [.lst 0,.val (.i .i64) (if (fillK d.1.1 d.1.2 d.2.1 d.2.2 (2 ^ d.1.1.length)).isEmpty then 7 else 0)]
def obs_shade_store_fill (d:((List (Int × (Int × Int) × Int)) × Int) × Int × Int):List OB:=[.lst 3 (.i .i64) (fillK d.1.1 d.1.2 d.2.1 d.2.2 (2 ^ d.1.1.length)) ((fillK d.1.1 d.1.2 d.2.1 d.2.2 (2 ^ d.1.1.length)).isEmpty)]
def s_shade_store_fill:CSp:=mkSp al_shade_store_fill pre_shade_store_fill res_shade_store_fill obs_shade_store_fill
def vc_shade_store_fill (l:List (Int × (Int × Int) × Int)) (tl:Int) (nc:Int) (ng:Int):Prop :=
 ∃ (e4:Unit) (d40:(List Int) × Int),((True∧True∧True∧(1:Int)=d40.2∧True)∧((l=l∧tl=tl∧(([]:List SV)=[]))∧(nc=nc∧ng=ng∧(([]:List SV)=[]))∧(d40.1=[]∧(List.isEmpty d40.1)=true)∧True)) ∧
 LoopP (fun (d4:(List Int) × Int) (q4:((List Int) × Int)→Prop) =>
  (0 ≤ (lI l))∧(InK .u64 (shlI .u64 (1:Int) (lI l)))∧((decide (d4.2 < (shlI .u64 (1:Int) (lI l))))=true →
   (0 ≤ d4.2∧d4.2 ≤ 1048576)∧(0 ≤ (0:Int))∧((0:Int) < (List.length (setL d4.2.toNat)))∧(0 ≤ (gD (setL d4.2.toNat) (0:Int) 0))∧((gD (setL d4.2.toNat) (0:Int) 0) < (List.length l))∧(((gD l (gD (setL d4.2.toNat) (0:Int) 0) (0,((0,0),0))).1 != nc)=false→l.length ≤ 12∧(∀ y ∈ l,lotOk y=true)∧0 ≤ d4.2∧d4.2 < 2 ^ l.length)∧((((gD l (gD (setL d4.2.toNat) (0:Int) 0) (0,((0,0),0))).1 != nc) || (decide ((gramsL l (setL d4.2.toNat)) < ng)))=false→l.length ≤ 12∧(∀ y ∈ l,lotOk y=true)∧0 < d4.2∧d4.2 < 2 ^ l.length)∧(((((gD l (gD (setL d4.2.toNat) (0:Int) 0) (0,((0,0),0))).1 != nc) || (decide ((gramsL l (setL d4.2.toNat)) < ng))) || (!(alikeL l tl (setL d4.2.toNat))))=true →
    (InK .u64 (d4.2 + (1:Int)))∧(∃ d5:(List Int) × Int,((True∧True∧True∧(d4.2 + (1:Int))=d5.2∧True)∧((l=l∧tl=tl∧(([]:List SV)=[]))∧(nc=nc∧ng=ng∧(([]:List SV)=[]))∧(d4.1=d5.1∧(List.isEmpty d4.1)=(List.isEmpty d5.1))∧True))∧q4 d5)) ∧
   (((((gD l (gD (setL d4.2.toNat) (0:Int) 0) (0,((0,0),0))).1 != nc) || (decide ((gramsL l (setL d4.2.toNat)) < ng))) || (!(alikeL l tl (setL d4.2.toNat))))=false →
    ((List.isEmpty d4.1)=false→True)∧((List.isEmpty d4.1)=false→(setL d4.2.toNat).length ≤ 1000∧d4.1.length ≤ 1000)∧((List.isEmpty d4.1)=false→True)∧((List.isEmpty d4.1)=false→[(cmpI (lI (setL d4.2.toNat)) (lI d4.1)),(cmpL (setL d4.2.toNat) d4.1)].length ≤ 1000)∧(((List.isEmpty d4.1) || (decide ((orI [(cmpI (lI (setL d4.2.toNat)) (lI d4.1)),(cmpL (setL d4.2.toNat) d4.1)]) < (0:Int))))=true →
     (InK .u64 (d4.2 + (1:Int)))∧(∃ d6:(List Int) × Int,((True∧True∧True∧(d4.2 + (1:Int))=d6.2∧True)∧((l=l∧tl=tl∧(([]:List SV)=[]))∧(nc=nc∧ng=ng∧(([]:List SV)=[]))∧((setL d4.2.toNat)=d6.1∧(setL d4.2.toNat).isEmpty=(List.isEmpty d6.1))∧True))∧q4 d6)) ∧
    (((List.isEmpty d4.1) || (decide ((orI [(cmpI (lI (setL d4.2.toNat)) (lI d4.1)),(cmpL (setL d4.2.toNat) d4.1)]) < (0:Int))))=false →
     (InK .u64 (d4.2 + (1:Int)))∧(∃ d7:(List Int) × Int,((True∧True∧True∧(d4.2 + (1:Int))=d7.2∧True)∧((l=l∧tl=tl∧(([]:List SV)=[]))∧(nc=nc∧ng=ng∧(([]:List SV)=[]))∧(d4.1=d7.1∧(List.isEmpty d4.1)=(List.isEmpty d7.1))∧True))∧q4 d7)))) ∧
  ((decide (d4.2 < (shlI .u64 (1:Int) (lI l))))=false →
   ((List.isEmpty d4.1)=true →
    ((True∧(7:Int)=(if (fillK l tl nc ng (2 ^ l.length)).isEmpty then 7 else 0)∧(([]:List SV)=[]))∧(((fillK l tl nc ng (2 ^ l.length))=[]∧(fillK l tl nc ng (2 ^ l.length)).isEmpty=true)∧True))) ∧
   ((List.isEmpty d4.1)=false →
    ((True∧(0:Int)=(if (fillK l tl nc ng (2 ^ l.length)).isEmpty then 7 else 0)∧(([]:List SV)=[]))∧((d4.1=(fillK l tl nc ng (2 ^ l.length))∧(List.isEmpty d4.1)=(fillK l tl nc ng (2 ^ l.length)).isEmpty)∧True))))) d40
def cx_shade_store_fill:Cx:=⟨[(3,(.i .i64))],[(56,s_shade_set_all),(78,s_shade_store_grams),(79,s_shade_store_alike),(81,s_cmp_Compare_int),(82,s_slices_Compare_int_int),(80,s_cmp_Or_int)],62,[],0,[],[],[],[],false,[],[],[]⟩
def lp_shade_store_fill (l:List (Int × (Int × Int) × Int)) (tl:Int) (nc:Int) (ng:Int):List (Nat × LoopAnn):=[(0,⟨Unit,(List Int) × Int,[2,3,4,6],fun e x=>[.box 2 0,.box 3 0,.lst 6000004,.val (.i .u64) x.2],fun e x=>[(2,.slot 2,.cells [.val (.list (.pair (.i .i64) (.pair (.pair (.i .i64) (.i .i64)) (.i .i64)))) l,.val (.i .i64) tl] (some 105)),(3,.slot 3,.cells [.val (.i .i64) nc,.val (.i .i64) ng] (some 41)),(6000004,.slot 4,.lst 3 (.i .i64) x.1 (List.isEmpty x.1))]⟩)]
set_option maxRecDepth 100000 in
theorem vq_shade_store_fill (d:((List (Int × (Int × Int) × Int)) × Int) × Int × Int):gwp (cx_shade_store_fill) (lp_shade_store_fill d.1.1 d.1.2 d.2.1 d.2.2) c53 0 (gend [.tmp 4,.tmp 5] (res_shade_store_fill d) (obs_shade_store_fill d)) (gstart 62 (AL.can al_shade_store_fill d))=vc_shade_store_fill d.1.1 d.1.2 d.2.1 d.2.2:=by kernel_rfl
abbrev Ok_shade_store_fill:Prop:=OkC Tryz.prog 53 s_shade_store_fill
theorem mk_shade_store_fill (h:∀ (l:List (Int × (Int × Int) × Int)) (tl:Int) (nc:Int) (ng:Int),(l.length ≤ 12∧(∀ y ∈ l,lotOk y=true))→vc_shade_store_fill l tl nc ng):OkC Tryz.prog 53 s_shade_store_fill :=
 okC_vc fun53 mixed (C:=cx_shade_store_fill) (V:=fun (d:((List (Int × (Int × Int) × Int)) × Int) × Int × Int)=>vc_shade_store_fill d.1.1 d.1.2 d.2.1 d.2.2) ⟨(.cons ok_shade_set_all (.cons ok_shade_store_grams (.cons ok_shade_store_alike (.cons ok_cmp_Compare_int (.cons ok_slices_Compare_int_int (.cons ok_cmp_Or_int .nil)))))),XsOk.nil,ItsOk.nil,YlOk.nil,IysOk.nil⟩ (vq_shade_store_fill) fun d hp=>h d.1.1 d.1.2 d.2.1 d.2.2 hp
end Go.Proofs.Tryz
set_option linter.unusedVariables false
namespace Go.Proofs.Tryz
open Go Go.V Go.Proofs
theorem ok_shade_store_fill:Ok_shade_store_fill:=mk_shade_store_fill fun l tl nc ng h=>by
 obtain ⟨h1,h2⟩:=h
 have hp2:2 ^ l.length ≤ 2 ^ 12:=Nat.pow_le_pow_right (by omega) h1
 have h12:(2:Nat) ^ 12=4096:=rfl
 have hp0:0 < 2 ^ l.length:=Nat.two_pow_pos _
 have hpi:(2:Int) ^ l.length=((2 ^ l.length:Nat):Int):=by simp
 unfold vc_shade_store_fill; (try delta lI gD sT I64)
 have hsh:shlI .u64 1 (l.length:Int)=((2 ^ l.length:Nat):Int):=by
  unfold shlI
  rw [Int.toNat_natCast,show Nat.min l.length (IntKind.bits .u64)=l.length from Nat.min_eq_left (show l.length ≤ 64 by omega),Int.one_mul]; exact hpi
 have hd:∀ j,l.getD j (0,((0,0),0))=l.getD j lotD:=fun _=>rfl
 simp only [hsh,decide_eq_true_eq,decide_eq_false_iff_not,hd]
 refine ⟨(),([],1),(by and_intros <;> first | rfl | trivial | simp),?_⟩
 refine ⟨fun d=>∃ s:Nat,d.2=s∧1 ≤ s∧s ≤ 2 ^ l.length∧d.1=fillK l tl nc ng s,fun d=>2 ^ l.length - d.2.toNat,⟨1,rfl,by omega,by omega,rfl⟩,?_⟩
 rintro ⟨_,_⟩ ⟨s,rfl,i1,i2,rfl⟩
 dsimp only
 have hfl:=fillK_len (tl:=tl) (nc:=nc) (ng:=ng) (show l.length ≤ 64 by omega) s i2
 have hK:fillK l tl nc ng (s + 1)=if fillOk l tl nc ng s && ((fillK l tl nc ng s).isEmpty || lessF (setL s) (fillK l tl nc ng s)) then setL s else fillK l tl nc ng s:=by
  conv=>lhs; unfold fillK
  rw [if_neg (by omega)]
 simp only [Int.toNat_natCast]
 refine ⟨by omega,by rw [InK_u64]; omega,fun hlt=>?_,fun hge=>?_⟩
 ·have hs:s < 2 ^ l.length:=by omega
  have hSl:=setL_small hs (show l.length ≤ 64 by omega)
  have hSn:=setL_ne (show 0 < s by omega)
  have hS0:0 < (setL s).length:=List.length_pos_iff.2 hSn
  have hm:=setL_lt hs (show l.length ≤ 64 by omega) _ (by rw [getD_nat hS0]; exact List.getElem_mem hS0:(setL s).getD 0 0 ∈ setL s)
  have hz:((0:Int)).toNat=0:=rfl
  simp only [hz,fillOk_eq]
  have hlf:(decide (orI [cmpI ((setL s).length:Int) ((fillK l tl nc ng s).length:Int),cmpL (setL s) (fillK l tl nc ng s)] < 0))=lessF (setL s) (fillK l tl nc ng s):=rfl
  rw [hlf]
  have hsi:(s:Int) < 2 ^ l.length:=by rw [hpi]; omega
  have nx:∀ b:List Int,b=fillK l tl nc ng (s + 1)→(∃ s',((s:Int) + 1)=((s':Nat):Int)∧1 ≤ s'∧s' ≤ 2 ^ l.length∧b=fillK l tl nc ng s'):=fun b hb=>⟨s + 1,by omega,by omega,by omega,hb⟩
  refine ⟨⟨by omega,by omega⟩,by omega,by omega,hm.1,hm.2,fun _=>⟨h1,h2,by omega,hsi⟩,fun _=>⟨h1,h2,by omega,hsi⟩,fun hx=>⟨by rw [InK_u64]; omega,(fillK l tl nc ng s,(s:Int) + 1),(by and_intros <;> first | rfl | trivial | simp),nx _ ?_,by dsimp only; omega⟩,fun hx=>⟨fun _=>trivial,fun _=>⟨by omega,by omega⟩,fun _=>trivial,fun _=>by simp,fun hy=>⟨by rw [InK_u64]; omega,(setL s,(s:Int) + 1),(by and_intros <;> first | rfl | trivial | simp),nx _ ?_,by dsimp only; omega⟩,fun hy=>⟨by rw [InK_u64]; omega,(fillK l tl nc ng s,(s:Int) + 1),(by and_intros <;> first | rfl | trivial | simp),nx _ ?_,by dsimp only; omega⟩⟩⟩
  ·have hx:fillOk l tl nc ng s=false:=by simpa using hx
   rw [hK,hx,Bool.false_and,if_neg (by decide)]
  ·have hx:fillOk l tl nc ng s=true:=by simpa using hx
   rw [hK,hx,hy]; rfl
  ·have hx:fillOk l tl nc ng s=true:=by simpa using hx
   rw [hK,hx,hy,Bool.and_false,if_neg (by decide)]
 ·have:s=2 ^ l.length:=by omega
  subst this
  refine ⟨fun he=>?_,fun he=>?_⟩
  ·rw [he]
   have:=List.isEmpty_iff.1 he
   rw [this]
   exact (by and_intros <;> first | rfl | trivial | simp)
  ·rw [he]
   exact (by and_intros <;> first | rfl | trivial | simp)
end Go.Proofs.Tryz
set_option linter.unusedVariables false
namespace Go.Proofs.Tryz
open Go Go.V Go.Proofs
def cx_shade_open:Cx:=⟨[(3,(.i .i64))],[(69,s_shade_Check),(61,s_shade_within)],21,[],0,[],[],[],[],false,[],[],[]⟩
def x_shade_open:XSp:=inlX cx_shade_open (fun _=>[]) c51 [.cell 4 true 2,.tmp 5] 21
theorem okx_shade_open:XOk Tryz.prog 51 x_shade_open:=inlX_ok fun51 mixed (C:=cx_shade_open) ⟨(.cons ok_shade_Check (.cons ok_shade_within .nil)),XsOk.nil,ItsOk.nil,YlOk.nil,IysOk.nil⟩ _
def al_shade_Fill:AL ((List (Int × (Int × Int) × Int)) × Int × Int × Int):=(.cons (.k (.list (.pair (.i .i64) (.pair (.pair (.i .i64) (.i .i64)) (.i .i64))))) (.cons (.k (.i .i64)) (.one (.agg (.cons (.k (.i .i64)) (.one (.k (.i .i64))))))))
def pre_shade_Fill (d:(List (Int × (Int × Int) × Int)) × Int × Int × Int):Prop:=d.1.length ≤ 1000
def res_shade_Fill (d:(List (Int × (Int × Int) × Int)) × Int × Int × Int):SV:=.tup [.lst 0,.val (.i .i64) (fillErr d.1 d.2.1 d.2.2.1 d.2.2.2)]
def obs_shade_Fill (d:(List (Int × (Int × Int) × Int)) × Int × Int × Int):List OB:=[.lst 3 (.i .i64) (fillW d.1 d.2.1 d.2.2.1 d.2.2.2) ((fillW d.1 d.2.1 d.2.2.1 d.2.2.2).isEmpty)]
def s_shade_Fill:CSp:=mkSp al_shade_Fill pre_shade_Fill res_shade_Fill obs_shade_Fill
def vc_shade_Fill (l:List (Int × (Int × Int) × Int)) (tl:Int) (nc:Int) (ng:Int):Prop :=
 ∀ w1:List Value,(l.length ≤ 1000)∧(((lotsErr l) == (0:Int))=true→True)∧(((lotsErr l) == (0:Int))=true→[tl].length ≤ 1000000)∧((((lotsErr l) == (0:Int)) && (!(!([tl].any fun n=>decide (n < (0:Int)) || decide ((1000:Int) < n)))))=true →
  w1=w1∧(((3:Int) != (0:Int))=true →
   ((True∧(3:Int)=(fillErr l tl nc ng)∧(([]:List SV)=[]))∧(((fillW l tl nc ng)=[]∧(fillW l tl nc ng).isEmpty=true)∧True))) ∧
  (((3:Int) != (0:Int))=false →
   (True)∧((!(needOk nc ng))=true →
    ((True∧(2:Int)=(fillErr l tl nc ng)∧(([]:List SV)=[]))∧(((fillW l tl nc ng)=[]∧(fillW l tl nc ng).isEmpty=true)∧True))) ∧
   ((!(needOk nc ng))=false →
    (l.length ≤ 12∧(∀ y ∈ l,lotOk y=true))∧((True∧(if (fillK l tl nc ng (2 ^ l.length)).isEmpty then 7 else 0)=(fillErr l tl nc ng)∧(([]:List SV)=[]))∧(((fillK l tl nc ng (2 ^ l.length))=(fillW l tl nc ng)∧(fillK l tl nc ng (2 ^ l.length)).isEmpty=(fillW l tl nc ng).isEmpty)∧True))))) ∧
 ((((lotsErr l) == (0:Int)) && (!(!([tl].any fun n=>decide (n < (0:Int)) || decide ((1000:Int) < n)))))=false →
  w1=w1∧(((lotsErr l) != (0:Int))=true →
   ((True∧(lotsErr l)=(fillErr l tl nc ng)∧(([]:List SV)=[]))∧(((fillW l tl nc ng)=[]∧(fillW l tl nc ng).isEmpty=true)∧True))) ∧
  (((lotsErr l) != (0:Int))=false →
   (True)∧((!(needOk nc ng))=true →
    ((True∧(2:Int)=(fillErr l tl nc ng)∧(([]:List SV)=[]))∧(((fillW l tl nc ng)=[]∧(fillW l tl nc ng).isEmpty=true)∧True))) ∧
   ((!(needOk nc ng))=false →
    (l.length ≤ 12∧(∀ y ∈ l,lotOk y=true))∧((True∧(if (fillK l tl nc ng (2 ^ l.length)).isEmpty then 7 else 0)=(fillErr l tl nc ng)∧(([]:List SV)=[]))∧(((fillK l tl nc ng (2 ^ l.length))=(fillW l tl nc ng)∧(fillK l tl nc ng (2 ^ l.length)).isEmpty=(fillW l tl nc ng).isEmpty)∧True)))))
def cx_shade_Fill:Cx:=⟨[(3,(.i .i64))],[(69,s_shade_Check),(61,s_shade_within),(52,s_shade_isNeed),(53,s_shade_store_fill)],29,[],0,[(51,x_shade_open)],[],[],[],false,[],[],[]⟩
def lp_shade_Fill (l:List (Int × (Int × Int) × Int)) (tl:Int) (nc:Int) (ng:Int):List (Nat × LoopAnn):=[]
set_option maxRecDepth 100000 in
theorem vq_shade_Fill (d:(List (Int × (Int × Int) × Int)) × Int × Int × Int):gwp (cx_shade_Fill) (lp_shade_Fill d.1 d.2.1 d.2.2.1 d.2.2.2) c24 0 (gend [.tmp 6,.tmp 7] (res_shade_Fill d) (obs_shade_Fill d)) (gstart 29 (AL.can al_shade_Fill d))=vc_shade_Fill d.1 d.2.1 d.2.2.1 d.2.2.2:=by kernel_rfl
abbrev Ok_shade_Fill:Prop:=OkC Tryz.prog 24 s_shade_Fill
theorem mk_shade_Fill (h:∀ (l:List (Int × (Int × Int) × Int)) (tl:Int) (nc:Int) (ng:Int),(l.length ≤ 1000)→vc_shade_Fill l tl nc ng):OkC Tryz.prog 24 s_shade_Fill :=
 okC_vc fun24 mixed (C:=cx_shade_Fill) (V:=fun (d:(List (Int × (Int × Int) × Int)) × Int × Int × Int)=>vc_shade_Fill d.1 d.2.1 d.2.2.1 d.2.2.2) ⟨(.cons ok_shade_Check (.cons ok_shade_within (.cons ok_shade_isNeed (.cons ok_shade_store_fill .nil)))),(XsOk.cons okx_shade_open XsOk.nil),ItsOk.nil,YlOk.nil,IysOk.nil⟩ (vq_shade_Fill) fun d hp=>h d.1 d.2.1 d.2.2.1 d.2.2.2 hp
theorem dead3:((3:Int) != 0)=true:=rfl
theorem ok_shade_Fill:Ok_shade_Fill:=mk_shade_Fill fun l tl nc ng h=>by
 unfold vc_shade_Fill; (try delta lI gD sT I64)
 have e:∀ n a b:Int,(decide (n < a) || decide (b < n))=!inI n a b:=fun n a b=>(nI n a b).symm
 simp only [List.any_cons,List.any_nil,Bool.or_false,e,Bool.not_not,List.length_cons,List.length_nil,dead3,Bool.true_eq_false,true_and,and_true,beq_iff_eq,bne_iff_ne,ne_eq,bne_eq_false_iff_eq,Bool.not_eq_true',Bool.not_eq_false',false_implies,Bool.or_false,implies_true,forall_const]
 refine ⟨h,by omega,fun hx=>?_,fun hx=>⟨fun a=>?_,fun a=>⟨fun b=>?_,fun b=>?_⟩⟩⟩
 ·simp only [Bool.and_eq_true,beq_iff_eq,Bool.not_eq_true'] at hx
  have o:openErr l tl=3:=by unfold openErr; rw [if_neg (by omega),hx.2]; rfl
  have e1:fillErr l tl nc ng=3:=by unfold fillErr; rw [o]; rfl
  have e2:fillW l tl nc ng=[]:=by unfold fillW; rw [o]; rfl
  rw [e1,e2]; exact (by and_intros <;> first | rfl | trivial | simp)
 ·have o:openErr l tl=lotsErr l:=by unfold openErr; rw [if_pos a]
  have e1:fillErr l tl nc ng=lotsErr l:=by unfold fillErr; rw [o,if_pos a]
  have e2:fillW l tl nc ng=[]:=by unfold fillW; rw [if_pos (.inl (by rw [o]; exact a))]
  rw [e1,e2]; exact (by and_intros <;> first | rfl | trivial | simp)
 ·have o:openErr l tl=0:=by
   unfold openErr; rw [if_neg (by omega),if_neg]
   intro h2; rw [a,h2] at hx; cases hx
  have e1:fillErr l tl nc ng=2:=by unfold fillErr; rw [if_neg (by omega),b]; rfl
  have e2:fillW l tl nc ng=[]:=by unfold fillW; rw [if_pos (.inr b)]
  rw [e1,e2]; exact (by and_intros <;> first | rfl | trivial | simp)
 ·have o:openErr l tl=0:=by
   unfold openErr; rw [if_neg (by omega),if_neg]
   intro h2; rw [a,h2] at hx; cases hx
  have e1:fillErr l tl nc ng=if (fillK l tl nc ng (2 ^ l.length)).isEmpty then 7 else 0:=by unfold fillErr; rw [if_neg (by omega),b]; rfl
  have e2:fillW l tl nc ng=fillK l tl nc ng (2 ^ l.length):=by
   unfold fillW; rw [if_neg]
   rintro (h | h)
   ·exact h o
   ·rw [b] at h; cases h
  rw [e1,e2]
  refine ⟨lots_zero a,?_⟩
  exact (by and_intros <;> first | rfl | trivial | simp)
end Go.Proofs.Tryz
set_option linter.unusedVariables false
namespace Go.Proofs.Tryz
open Go Go.V Go.Proofs
def chosenK (n m:Nat):List Int:=((List.range m).filter fun k=>n.testBit k).map fun (k:Nat)=>(k:Int)
theorem sorted_extS:∀ {a b:List Int},a.Pairwise (· < ·)→b.Pairwise (· < ·)→(∀ x,x ∈ a ↔ x ∈ b)→a=b
 | [],[],_,_,_=>rfl
 | [],y :: b,_,_,h=>by have:=(h y).2 (List.mem_cons_self ..); cases this
 | x :: a,[],_,_,h=>by have:=(h x).1 (List.mem_cons_self ..); cases this
 | x :: a,y :: b,ha,hb,h=>by
  obtain ⟨ha1,ha2⟩:=List.pairwise_cons.1 ha
  obtain ⟨hb1,hb2⟩:=List.pairwise_cons.1 hb
  have hxy:x=y:=by
   rcases List.mem_cons.1 ((h x).1 (List.mem_cons_self ..)) with e | e
   ·exact e
   ·rcases List.mem_cons.1 ((h y).2 (List.mem_cons_self ..)) with e2 | e2
    ·exact e2.symm
    ·have h1:=hb1 x e; have h2:=ha1 y e2; omega
  subst hxy
  rw [sorted_extS ha2 hb2 fun z=>?_]
  constructor
  ·intro hz
   rcases List.mem_cons.1 ((h z).1 (List.mem_cons_of_mem _ hz)) with e | e
   ·have:=ha1 z hz; omega
   ·exact e
  ·intro hz
   rcases List.mem_cons.1 ((h z).2 (List.mem_cons_of_mem _ hz)) with e | e
   ·have:=hb1 z hz; omega
   ·exact e
theorem tz_low {n k:Nat} (h0:0 < n) (h1:n < 2 ^ 64) (hk:n.testBit k=true):tzN n ≤ k:=by
 obtain ⟨_,m,hm⟩:=tzN_spec h0 h1
 generalize tzN n=t at *
 rcases Nat.lt_or_ge k t with h | h
 ·rw [hm,Nat.testBit_two_pow_mul,decide_eq_false (show ¬ k ≥ t by omega)] at hk; cases hk
 ·exact h
theorem setK_sorted:∀ f n,n ≤ f→n < 2 ^ 64→(setK f n).Pairwise (· < ·)
 | 0,n,_,_=>by simp [setK]
 | f + 1,n,h1,h2=>by
  unfold setK
  by_cases h:n=0
  ·rw [if_pos h]; exact List.Pairwise.nil
  ·rw [if_neg h,List.pairwise_cons]
   have hle:=Nat.and_le_right (n:=n) (m:=n - 1)
   refine ⟨fun i hm=>?_,setK_sorted f _ (by omega) (by omega)⟩
   obtain ⟨k,rfl,hb⟩:=(setK_mem f _ (by omega) (by omega) _).1 hm
   rw [clear_bit (by omega) h2] at hb
   simp only [Bool.and_eq_true,Bool.not_eq_true',decide_eq_false_iff_not] at hb
   have:=tz_low (by omega) h2 hb.1
   omega
theorem setL_chosen {n m:Nat} (h:n < 2 ^ m) (hm:m ≤ 64):setL n=chosenK n m:=by
 have hp:2 ^ m ≤ 2 ^ 64:=Nat.pow_le_pow_right (by omega) hm
 refine sorted_extS (setK_sorted n n (Nat.le_refl _) (by omega)) ?_ fun x=>?_
 ·unfold chosenK
  rw [List.pairwise_map]
  exact (List.Pairwise.filter _ List.pairwise_lt_range).imp fun h=>by omega
 ·rw [setL_mem (by omega)]
  simp only [chosenK,List.mem_map,List.mem_filter,List.mem_range]
  constructor
  ·rintro ⟨k,rfl,hb⟩
   have:k < m:=by
    rcases Nat.lt_or_ge k m with h2 | h2
    ·exact h2
    ·rw [Nat.testBit_lt_two_pow (Nat.lt_of_lt_of_le h (Nat.pow_le_pow_right (by omega) h2))] at hb; cases hb
   exact ⟨k,⟨this,hb⟩,rfl⟩
  ·rintro ⟨k,⟨_,hb⟩,rfl⟩
   exact ⟨k,rfl,hb⟩
def pairB (a b:Lot) (t:Int):Bool:=(a.1 == b.1) && decide (farL a b ≤ t) && decide (farL a a ≤ t) && decide (farL b b ≤ t)
def alikeR (p:List Lot) (t:Int):Bool:=(List.range p.length).all fun i=>(List.range p.length).all fun k=>pairB (p.getD i lotD) (p.getD k lotD) t
theorem alikeR_iff {p:List Lot} {t:Int}:alikeR p t=true ↔ ∀ i,i < p.length→∀ k,k < p.length→(p.getD i lotD).1=(p.getD k lotD).1∧farL (p.getD i lotD) (p.getD k lotD) ≤ t:=by
 simp only [alikeR,List.all_eq_true,List.mem_range,pairB,Bool.and_eq_true,beq_iff_eq,decide_eq_true_eq]
 exact ⟨fun h i hi k hk=>⟨(h i hi k hk).1.1.1,(h i hi k hk).1.1.2⟩,fun h i hi k hk=>⟨⟨⟨(h i hi k hk).1,(h i hi k hk).2⟩,(h i hi i hi).2⟩,(h k hk k hk).2⟩⟩
theorem alike_law {p:List Lot} {t:Int} (h:p ≠ []):alikeP t p=alikeR p t:=by
 have hp:1 ≤ p.length:=List.length_pos_iff.2 h
 obtain ⟨a,_,_,⟨i3,b3,c3⟩,⟨i4,b4,c4⟩⟩:=sprF_spec h p.length hp (Nat.le_refl _)
 rw [Bool.eq_iff_iff,alikeR_iff]
 unfold alikeP sprD
 simp only [Bool.and_eq_true,Bool.not_eq_true',decide_eq_true_eq,List.any_eq_false,bne_iff_ne,ne_eq,Decidable.not_not]
 generalize sprF p p.length=S at *
 constructor
 ·rintro ⟨h1,h2⟩ i hi k hk
  have e1:=h1 _ (by rw [getD_nat hi]; exact List.getElem_mem hi:p.getD i lotD ∈ p)
  have e2:=h1 _ (by rw [getD_nat hk]; exact List.getElem_mem hk:p.getD k lotD ∈ p)
  have u:=a i hi
  have v:=a k hk
  refine ⟨e1.trans e2.symm,?_⟩
  unfold farL
  rw [gmax_eq]; omega
 ·intro h1
  refine ⟨fun x hx=>?_,?_⟩
  ·obtain ⟨i,hi,rfl⟩:=List.getElem_of_mem hx
   have:=(h1 i hi 0 (by omega)).1
   rwa [getD_nat hi] at this
  ·have:=(h1 i4 b4 i3 b3).2
   unfold farL at this
   rw [gmax_eq] at this
   omega
def lessR (a b:List Int):Bool:=if a.length ≠ b.length then decide (a.length < b.length) else decide (cmpL a b < 0)
theorem less_eq (a b:List Int):lessF a b=lessR a b:=by
 unfold lessF lessR
 by_cases h:a.length=b.length
 ·have e:cmpI (a.length:Int) (b.length:Int)=0:=cmpI_zero.2 (by omega)
  rw [if_neg (by omega),e]
  have:orI [0,cmpL a b]=cmpL a b:=by
   unfold orI
   by_cases h2:cmpL a b=0
   ·rw [h2]; rfl
   ·rw [List.find?_cons_of_neg (by simp),List.find?_cons_of_pos (by simpa using h2)]; rfl
  rw [this]
 ·have e:cmpI (a.length:Int) (b.length:Int)=if a.length < b.length then -1 else 1:=by
   unfold cmpI
   by_cases h2:a.length < b.length
   ·rw [if_pos h2,if_pos (by omega)]
   ·rw [if_neg h2,if_neg (by omega),if_pos (by omega)]
  have h3:cmpI (a.length:Int) (b.length:Int) ≠ 0:=by rw [e]; split <;> decide
  have:orI [cmpI (a.length:Int) (b.length:Int),cmpL a b]=cmpI (a.length:Int) (b.length:Int):=by
   unfold orI
   rw [List.find?_cons_of_pos (by simpa using h3)]; rfl
  rw [this,e,if_pos h]
  by_cases h2:a.length < b.length
  ·rw [if_pos h2,decide_eq_true h2]; rfl
  ·rw [if_neg h2,decide_eq_false h2]; rfl
theorem less_le {a b:List Int} (h:lessF a b=true):a.length ≤ b.length:=by
 rw [less_eq] at h
 unfold lessR at h
 split at h
 ·have:=of_decide_eq_true h; omega
 ·omega
theorem nless_le {a b:List Int} (h:lessF a b=false):b.length ≤ a.length:=by
 rw [less_eq] at h
 unfold lessR at h
 split at h
 ·have:=of_decide_eq_false h; omega
 ·omega
theorem fillK_is {l:List Lot} {tl nc ng:Int}:∀ n,fillK l tl nc ng n=[] ∨ ∃ s,1 ≤ s∧s < n∧fillOk l tl nc ng s=true∧fillK l tl nc ng n=setL s
 | 0=>.inl rfl
 | n + 1=>by
  unfold fillK
  by_cases h:n=0
  ·rw [if_pos h]; exact .inl rfl
  ·rw [if_neg h]
   split
   ·rename_i h2
    rw [Bool.and_eq_true] at h2
    exact .inr ⟨n,by omega,by omega,h2.1,rfl⟩
   ·rcases fillK_is (l:=l) (tl:=tl) (nc:=nc) (ng:=ng) n with h3 | ⟨s,h3,h4,h5⟩
    ·exact .inl h3
    ·exact .inr ⟨s,h3,by omega,h5⟩
theorem fillK_min {l:List Lot} {tl nc ng:Int} {s:Nat} (h1:1 ≤ s) (h2:fillOk l tl nc ng s=true):∀ n,s < n→fillK l tl nc ng n ≠ []∧(fillK l tl nc ng n).length ≤ (setL s).length
 | 0,h=>by omega
 | n + 1,h=>by
  unfold fillK
  rw [if_neg (by omega)]
  by_cases h3:s=n
  ·subst h3
   rw [h2,Bool.true_and]
   split
   ·exact ⟨setL_ne (by omega),Nat.le_refl _⟩
   ·rename_i h4
    rw [Bool.not_eq_true,Bool.or_eq_false_iff] at h4
    exact ⟨fun e=>(by rw [e] at h4; cases h4.1),nless_le h4.2⟩
  ·obtain ⟨h5,h6⟩:=fillK_min h1 h2 n (by omega)
   split
   ·rename_i h4
    rw [Bool.and_eq_true,Bool.or_eq_true] at h4
    refine ⟨setL_ne (by omega),?_⟩
    rcases h4.2 with h7 | h7
    ·exact (h5 (List.isEmpty_iff.1 h7)).elim
    ·have:=less_le h7; omega
   ·exact ⟨h5,h6⟩
end Go.Proofs.Tryz
set_option linter.unusedVariables false
namespace Go.Proofs.Tryz
open Go Go.V Go.Proofs
theorem getD_memS {lw:List Int} {w:Nat} (hw:w < lw.length):lw.getD w 0 ∈ lw:=by rw [getD_nat hw]; exact List.getElem_mem hw
theorem pickL_atS {l:List Lot} {sm:List Int} {i:Nat} (h:i < sm.length):(pickL l sm).getD i lotD=l.getD (sm.getD i 0).toNat lotD:=by
 rw [getD_nat (by simpa [pickL] using h),getD_nat h]; simp [pickL]
theorem chosenK_succ (n k:Nat):chosenK n (k + 1)=chosenK n k++if n.testBit k then [(k:Int)] else []:=by
 unfold chosenK
 rw [List.range_succ,List.filter_append,List.map_append]
 congr 1
 rw [List.filter_cons]
 split <;> simp
theorem chosenK_len (n k:Nat):(chosenK n k).length ≤ k:=by
 unfold chosenK
 rw [List.length_map]
 have:=List.length_filter_le (fun k=>n.testBit k) (List.range k)
 rw [List.length_range] at this
 exact this
end Go.Proofs.Tryz
set_option linter.unusedVariables false
namespace Go.Proofs.Tryz
open Go Go.V Go.Proofs
theorem fill_cases (l:List Lot) (tl nc ng:Int):(openErr l tl ≠ 0∧fillErr l tl nc ng=openErr l tl∧fillW l tl nc ng=[]) ∨ (openErr l tl=0∧needOk nc ng=false∧fillErr l tl nc ng=2∧fillW l tl nc ng=[]) ∨ (openErr l tl=0∧needOk nc ng=true∧fillErr l tl nc ng=(if (fillK l tl nc ng (2 ^ l.length)).isEmpty then 7 else 0)∧fillW l tl nc ng=fillK l tl nc ng (2 ^ l.length)):=by
 unfold fillErr fillW
 by_cases h:openErr l tl=0
 ·cases h2:needOk nc ng
  ·exact .inr (.inl ⟨h,rfl,by rw [if_neg (by omega)]; rfl,by rw [if_pos (.inr rfl)]⟩)
  ·exact .inr (.inr ⟨h,rfl,by rw [if_neg (by omega)]; rfl,by rw [if_neg]; rintro (h3 | h3); exact h3 h; cases h3⟩)
 ·exact .inl ⟨h,by rw [if_pos h],by rw [if_pos (.inl h)]⟩
end Go.Proofs.Tryz
set_option linter.unusedVariables false
namespace Go.Proofs.Tryz
open Go Go.V Go.Proofs
def byteV (l:List Int) (i:Int):Int:=if l.length=0 then 0 else l.getD (Int.tmod i l.length).toNat 0
def vbOk (x:Int × Int × Int × Int):Prop:=(0 ≤ x.1∧x.1 ≤ 255)∧(0 ≤ x.2.1∧x.2.1 ≤ 255)∧(0 ≤ x.2.2.1∧x.2.2.1 ≤ 255)∧(0 ≤ x.2.2.2∧x.2.2.2 ≤ 255)
def vatOk (vl:List (Int × Int × Int × Int)) (vt:List Int):Prop:=vl.length ≤ 9223372036854775807∧vt.length ≤ 9223372036854775807∧(∀ x ∈ vl,vbOk x)∧∀ x ∈ vt,0 ≤ x∧x ≤ 255
def vatLot (v:Int × Int × Int × Int):Lot:=(Int.tdiv v.1 128,((2 * v.2.1,2 * v.2.1 + Int.tmod v.2.2.1 40),1 + 10 * v.2.2.2))
def vatL (vl:List (Int × Int × Int × Int)):List Lot:=(vl.take 9).map vatLot
def thrV (vt:List Int) (x:Lot) (i:Int):Int:=x.2.1.1 + Int.tdiv (byteV vt i * (x.2.1.2 - x.2.1.1)) 255
def farV (a b:Lot):Int:=if a.1 ≠ b.1 then 10000 else gmax (gmax (gmax (a.2.1.2 - b.2.1.1) (b.2.1.2 - a.2.1.1)) (a.2.1.2 - a.2.1.1)) (b.2.1.2 - b.2.1.1)
theorem byteV_in {l:List Int} {i:Int} (h:∀ x ∈ l,0 ≤ x∧x ≤ 255) (hi:0 ≤ i):0 ≤ byteV l i∧byteV l i ≤ 255:=by
 unfold byteV
 split
 ·omega
 ·rename_i h0
  have e:=Int.tmod_eq_emod_of_nonneg (b:=(l.length:Int)) hi
  have h1:=Int.emod_nonneg i (show (l.length:Int) ≠ 0 by omega)
  have h2:=Int.emod_lt_of_pos i (show (0:Int) < l.length by omega)
  have h3:(Int.tmod i l.length).toNat < l.length:=by omega
  rw [getD_nat h3]
  exact h _ (List.getElem_mem h3)
theorem vatLot_ok {v:Int × Int × Int × Int} (h:vbOk v):lotOk (vatLot v)=true∧(vatLot v).1 ≤ 1:=by
 obtain ⟨⟨a1,a2⟩,⟨b1,b2⟩,⟨c1,c2⟩,d1,d2⟩:=h
 rw [lotOk_iff]
 unfold vatLot
 dsimp only
 have e1:=Int.tdiv_eq_ediv_of_nonneg (b:=128) a1
 have e2:=Int.tmod_eq_emod_of_nonneg (b:=40) c1
 omega
theorem vatL_ok {vl:List (Int × Int × Int × Int)} (h:∀ x ∈ vl,vbOk x):(vatL vl).length ≤ 9∧(∀ x ∈ vatL vl,lotOk x=true)∧∀ x ∈ vatL vl,x.1 ≤ 1:=by
 refine ⟨by unfold vatL; rw [List.length_map,List.length_take]; omega,fun x hx=>?_,fun x hx=>?_⟩ <;>
 ·unfold vatL at hx
  obtain ⟨v,hv,rfl⟩:=List.mem_map.1 hx
  have:=vatLot_ok (h v (List.mem_of_mem_take hv))
  first | exact this.1 | exact this.2
theorem thrV_in {vt:List Int} {x:Lot} {i:Int} (h:∀ x ∈ vt,0 ≤ x∧x ≤ 255) (hi:0 ≤ i) (h1:x.2.1.1 ≤ x.2.1.2):x.2.1.1 ≤ thrV vt x i∧thrV vt x i ≤ x.2.1.2:=by
 obtain ⟨b0,b1⟩:=byteV_in h hi
 unfold thrV
 generalize byteV vt i=b at *
 obtain ⟨w,hw⟩:∃ w,w=x.2.1.2 - x.2.1.1:=⟨_,rfl⟩
 rw [←hw]
 have hw0:0 ≤ w:=by omega
 have p0:0 ≤ b * w:=Int.mul_nonneg b0 hw0
 have p1:b * w ≤ 255 * w:=Int.mul_le_mul_of_nonneg_right b1 hw0
 have e:=Int.tdiv_eq_ediv_of_nonneg (b:=255) p0
 omega
theorem farV_le {a b:Lot} {t:Int} (ht:t ≤ 1000):farV a b ≤ t ↔ a.1=b.1∧farL a b ≤ t∧farL a a ≤ t∧farL b b ≤ t:=by
 unfold farV farL
 simp only [gmax_eq]
 split
 ·rename_i h
  exact ⟨fun h2=>by omega,fun h2=>(h h2.1).elim⟩
 ·rename_i h
  have h:a.1=b.1:=Decidable.not_not.1 h
  constructor
  ·intro h2; refine ⟨h,?_,?_,?_⟩ <;> omega
  ·rintro ⟨_,h2,h3,h4⟩; omega
end Go.Proofs.Tryz
set_option linter.unusedVariables false
namespace Go.Proofs.Tryz
open Go Go.V Go.Proofs
theorem chosenK_mod (so m:Nat):chosenK (so % 2 ^ m) m=chosenK so m:=by
 unfold chosenK
 congr 1
 refine List.filter_congr fun k hk=>?_
 rw [List.mem_range] at hk
 rw [Nat.testBit_mod_two_pow,decide_eq_true hk,Bool.true_and]
theorem chosenK_set {so m:Nat} (hm:m ≤ 64):setL (so % 2 ^ m)=chosenK so m:=by
 rw [setL_chosen (Nat.mod_lt _ (Nat.two_pow_pos m)) hm,chosenK_mod]
theorem chosenK_mem {so m:Nat} {x:Int} (h:x ∈ chosenK so m):0 ≤ x∧x < m:=by
 unfold chosenK at h
 obtain ⟨k,hk,rfl⟩:=List.mem_map.1 h
 have:=List.mem_range.1 (List.mem_filter.1 hk).1
 omega
theorem chosenK_sorted (so m:Nat):(chosenK so m).Pairwise (· < ·):=by
 unfold chosenK
 rw [List.pairwise_map]
 exact (List.Pairwise.filter _ List.pairwise_lt_range).imp fun h=>by omega
theorem farL_symm (a b:Lot):farL a b=farL b a:=by
 unfold farL; rw [gmax_eq,gmax_eq]; omega
def lotAt (L:List Lot) (a:Int):Lot:=L.getD a.toNat lotD
structure ThrI (L:List Lot) (so:Nat) (t:Int) (k:Nat) (pick:List Int) (low high e0 e1 sum:Int) (al:Bool):Prop where
 pk:pick=chosenK so k
 sm:sum=gramsL L pick
 s0:0 ≤ sum
 s1:sum ≤ 1000000 * (k:Int)
 al:al=true→∀ a ∈ pick,(lotAt L a).1=0∧∀ b ∈ pick,farL (lotAt L a) (lotAt L b) ≤ t
 en:∀ a ∈ pick,e0 ≤ (lotAt L a).2.1.1∧(lotAt L a).2.1.2 ≤ e1
 at0:pick ≠ []→∃ a ∈ pick,e0=(lotAt L a).2.1.1
 at1:pick ≠ []→∃ a ∈ pick,e1=(lotAt L a).2.1.2
 em:pick=[]→e0=1048576∧e1=0
 b0:e0 ≤ low
 b1:high ≤ e1
 b2:0 ≤ e0
 b3:low ≤ 1048576
 b4:0 ≤ high
 b5:e1 ≤ 1048576
theorem thrI_zero (L:List Lot) (so:Nat) (t:Int):ThrI L so t 0 [] 1048576 0 1048576 0 0 true:=by
 constructor <;> first | rfl | omega | (intro h; exact (h rfl).elim) | (intro _; exact ⟨rfl,rfl⟩) | (intro _ a ha; cases ha) | (intro a ha; cases ha)
theorem thrI_skip {L:List Lot} {so:Nat} {t:Int} {k:Nat} {pick:List Int} {low high e0 e1 sum:Int} {al:Bool} (h:ThrI L so t k pick low high e0 e1 sum al) (hb:so.testBit k=false):ThrI L so t (k + 1) pick low high e0 e1 sum al:=by
 have e:chosenK so (k + 1)=chosenK so k:=by rw [chosenK_succ,hb,if_neg (by decide),List.append_nil]
 exact { h with pk:=by rw [e]; exact h.pk,s1:=by have:=h.s1; omega }
theorem thrI_take {L:List Lot} {so:Nat} {t:Int} {k:Nat} {pick:List Int} {low high e0 e1 sum:Int} {al:Bool} {low' high' e0' e1' sum':Int} {al':Bool} (h:ThrI L so t k pick low high e0 e1 sum al) (hk:k < L.length) (hok:∀ x ∈ L,lotOk x=true) (hb:so.testBit k=true)
  (hs:sum'=sum + (lotAt L k).2.2) (ha:al'=true→al=true∧(lotAt L k).1=0∧farL (lotAt L k) (lotAt L k) ≤ t∧∀ b ∈ pick,farL (lotAt L k) (lotAt L b) ≤ t)
  (h0:e0'=gmin e0 (lotAt L k).2.1.1) (h1:e1'=gmax e1 (lotAt L k).2.1.2) (hl:e0' ≤ low') (hh:high' ≤ e1') (hl1:low' ≤ 1048576) (hh0:0 ≤ high'):ThrI L so t (k + 1) (pick++[(k:Int)]) low' high' e0' e1' sum' al':=by
 have hlk:lotAt L (k:Int)=L[k]:=by unfold lotAt; rw [Int.toNat_natCast]; exact getD_nat hk
 have ok:=lotOk_iff.1 (hok _ (List.getElem_mem hk))
 rw [←hlk] at ok
 rw [gmin_eq] at h0
 rw [gmax_eq] at h1
 have hb2:=h.b2
 have hb5:=h.b5
 have hs0:=h.s0
 have hs1:=h.s1
 refine ⟨?_,?_,by omega,by omega,?_,?_,fun _=>?_,fun _=>?_,fun e=>by simp at e,hl,hh,by omega,hl1,hh0,by omega⟩
 ·rw [chosenK_succ,hb,if_pos rfl,h.pk]
 ·rw [hs,h.sm]; unfold gramsL; rw [List.foldl_append]; rfl
 ·intro h2
  obtain ⟨q1,q2,q3,q4⟩:=ha h2
  have q5:=h.al q1
  intro a ha2
  rcases List.mem_append.1 ha2 with ha2 | ha2
  ·refine ⟨(q5 a ha2).1,fun b hb2=>?_⟩
   rcases List.mem_append.1 hb2 with hb2 | hb2
   ·exact (q5 a ha2).2 b hb2
   ·rw [List.mem_singleton.1 hb2,farL_symm]; exact q4 a ha2
  ·rw [List.mem_singleton.1 ha2]
   refine ⟨q2,fun b hb2=>?_⟩
   rcases List.mem_append.1 hb2 with hb2 | hb2
   ·exact q4 b hb2
   ·rw [List.mem_singleton.1 hb2]; exact q3
 ·intro a ha2
  rcases List.mem_append.1 ha2 with ha2 | ha2
  ·have:=h.en a ha2; omega
  ·rw [List.mem_singleton.1 ha2]; omega
 ·by_cases c:e0 ≤ (lotAt L k).2.1.1∧pick ≠ []
  ·obtain ⟨a,ha2,hae⟩:=h.at0 c.2
   exact ⟨a,List.mem_append_left _ ha2,by omega⟩
  ·refine ⟨k,List.mem_append_right _ (List.mem_singleton.2 rfl),?_⟩
   by_cases c2:pick=[]
   ·have:=(h.em c2).1; omega
   ·have:¬ e0 ≤ (lotAt L k).2.1.1:=fun h9=>c ⟨h9,c2⟩
    omega
 ·by_cases c:(lotAt L k).2.1.2 ≤ e1∧pick ≠ []
  ·obtain ⟨a,ha2,hae⟩:=h.at1 c.2
   exact ⟨a,List.mem_append_left _ ha2,by omega⟩
  ·refine ⟨k,List.mem_append_right _ (List.mem_singleton.2 rfl),?_⟩
   by_cases c2:pick=[]
   ·have:=(h.em c2).2; omega
   ·have:¬ (lotAt L k).2.1.2 ≤ e1:=fun h9=>c ⟨h9,c2⟩
    omega
theorem thr_fill {L:List Lot} {so:Nat} {t ng:Int} {low high e0 e1 sum:Int} (h:ThrI L so t L.length (chosenK so L.length) low high e0 e1 sum true) (hl:L.length ≤ 12) (hn:ng ≤ sum) (hp:chosenK so L.length ≠ []) :
  fillK L t 0 ng (2 ^ L.length) ≠ []∧(fillK L t 0 ng (2 ^ L.length)).length ≤ (chosenK so L.length).length:=by
 have hs:=chosenK_set (so:=so) (m:=L.length) (by omega)
 have hlt:so % 2 ^ L.length < 2 ^ L.length:=Nat.mod_lt _ (Nat.two_pow_pos _)
 have h1:1 ≤ so % 2 ^ L.length:=by
  rcases Nat.eq_zero_or_pos (so % 2 ^ L.length) with h0 | h0
  ·rw [h0] at hs; exact (hp hs.symm).elim
  ·omega
 have hp1:0 < (chosenK so L.length).length:=List.length_pos_iff.2 hp
 have hal:=h.al rfl
 have hin:∀ a ∈ chosenK so L.length,0 ≤ a∧a < L.length:=fun a ha=>chosenK_mem ha
 have hok:fillOk L t 0 ng (so % 2 ^ L.length)=true:=by
  unfold fillOk alikeL
  have hne:pickL L (setL (so % 2 ^ L.length)) ≠ []:=by rw [hs]; simpa [pickL] using hp
  rw [alike_law hne,hs,Bool.and_eq_true,Bool.and_eq_true,beq_iff_eq,decide_eq_true_eq]
  refine ⟨⟨?_,by rw [←h.sm]; exact hn⟩,?_⟩
  ·exact (hal _ (by rw [getD_nat hp1]; exact List.getElem_mem hp1)).1
  ·rw [alikeR_iff]
   have hpl:(pickL L (chosenK so L.length)).length=(chosenK so L.length).length:=by simp [pickL]
   intro i hi k hk
   rw [hpl] at hi hk
   rw [pickL_atS hi,pickL_atS hk]
   have m1:=getD_memS hi
   have m2:=getD_memS hk
   exact ⟨((hal _ m1).1.trans (hal _ m2).1.symm),(hal _ m1).2 _ m2⟩
 have:=fillK_min h1 hok (2 ^ L.length) hlt
 rwa [hs] at this
theorem dup_sorted {S:List Int} (h:S.Pairwise (· < ·)):dupL S=false:=by
 unfold dupL
 rw [List.any_eq_false]
 intro k hk
 rw [List.mem_range] at hk
 rw [decide_eq_true_eq]
 intro hm
 obtain ⟨j,hj,he⟩:=List.getElem_of_mem hm
 rw [List.getElem_take,getD_nat hk] at he
 rw [List.length_take] at hj
 have:=List.pairwise_iff_getElem.1 h j k (by omega) hk (by omega)
 omega
theorem thr_spread {L:List Lot} {so:Nat} {t:Int} {low high e0 e1 sum:Int} {al:Bool} (h:ThrI L so t L.length (chosenK so L.length) low high e0 e1 sum al) (hl:L.length ≤ 12) (hok:∀ x ∈ L,lotOk x=true) :
  (chosenK so L.length=[]→spreadErr L (chosenK so L.length)=7)∧(chosenK so L.length ≠ []→spreadErr L (chosenK so L.length)=0∧(spreadSp L (chosenK so L.length)).2=e1 - e0∧0 ≤ (spreadSp L (chosenK so L.length)).1∧(spreadSp L (chosenK so L.length)).1 ≤ (spreadSp L (chosenK so L.length)).2):=by
 have hE:lotsErr L=0:=by
  unfold lotsErr
  rw [if_neg (by omega),if_neg]
  rw [List.any_eq_true]
  rintro ⟨x,hx,h9⟩
  rw [hok x hx] at h9; cases h9
 refine ⟨fun e=>?_,fun hp=>?_⟩
 ·unfold spreadErr; rw [if_neg (by omega),if_pos (.inl e)]
 have hin:∀ a ∈ chosenK so L.length,0 ≤ a∧a < L.length:=fun a ha=>chosenK_mem ha
 have e1':spreadErr L (chosenK so L.length)=0:=by
  unfold spreadErr
  rw [if_neg (by omega),if_neg,if_neg]
  ·rw [dup_sorted (chosenK_sorted so L.length)]; decide
  ·rintro (h9 | h9)
   ·exact hp h9
   ·obtain ⟨x,hx,h9⟩:=List.any_eq_true.1 h9
    have:=hin x hx
    simp only [inI,Bool.not_eq_true',Bool.and_eq_false_iff,decide_eq_false_iff_not] at h9
    omega
 have hne:pickL L (chosenK so L.length) ≠ []:=by simpa [pickL] using hp
 have hpl:(pickL L (chosenK so L.length)).length=(chosenK so L.length).length:=by simp [pickL]
 have hp1:0 < (chosenK so L.length).length:=List.length_pos_iff.2 hp
 obtain ⟨a,⟨i1,b1,c1⟩,⟨i2,b2,c2⟩,⟨i3,b3,c3⟩,⟨i4,b4,c4⟩⟩:=sprF_spec hne (pickL L (chosenK so L.length)).length (by omega) (Nat.le_refl _)
 refine ⟨e1',?_⟩
 unfold spreadSp
 rw [if_pos e1']
 unfold sprD
 generalize sprF (pickL L (chosenK so L.length)) (pickL L (chosenK so L.length)).length=S at *
 rw [hpl] at a b1 b2 b3 b4
 have hat:∀ i,i < (chosenK so L.length).length→(pickL L (chosenK so L.length)).getD i lotD=lotAt L ((chosenK so L.length).getD i 0):=fun i hi=>pickL_atS hi
 have hlo:∀ x ∈ chosenK so L.length,(lotAt L x).2.1.1 ≤ (lotAt L x).2.1.2:=fun x hx=>by
  have hx2:=hin x hx
  have hj:x.toNat < L.length:=by omega
  have:=lotOk_iff.1 (hok _ (List.getElem_mem hj))
  unfold lotAt
  rw [getD_nat hj]; omega
 have f3:=h.en _ (getD_memS b3)
 have f4:=h.en _ (getD_memS b4)
 rw [hat _ b1] at c1
 rw [hat _ b2] at c2
 rw [hat _ b3] at c3
 rw [hat _ b4] at c4
 obtain ⟨x0,hx0,g0⟩:=h.at0 hp
 obtain ⟨x1,hx1,g1⟩:=h.at1 hp
 obtain ⟨j0,hj0,rfl⟩:=List.getElem_of_mem hx0
 obtain ⟨j1,hj1,rfl⟩:=List.getElem_of_mem hx1
 have p0:=a j0 hj0
 have p1:=a j1 hj1
 rw [hat _ hj0,getD_nat hj0] at p0
 rw [hat _ hj1,getD_nat hj1] at p1
 have q1:=a i1 b1
 have q2:=a i2 b2
 rw [hat _ b1] at q1
 rw [hat _ b2] at q2
 have r1:=hlo _ (getD_memS b1)
 have r2:=hlo _ (getD_memS b2)
 dsimp only
 rw [gmax_eq]
 refine ⟨by omega,by omega,by omega⟩
theorem wrap_u16 (z:Int):IntKind.wrap .u16 z=z % 65536:=rfl
theorem shr_bit16 {x i:Nat} (hx:x < 65536) (hi:i ≤ 16):(vbits .and .u16 (shrI .u16 x i) 1 == 0)=!x.testBit i:=by
 have:Nat.min i 16=i:=Nat.min_eq_left hi
 have e1:shrI .u16 (x:Int) i=((x >>> i:Nat):Int):=by
  simp only [shrI,Int.toNat_natCast,IntKind.bits,this]
  rw [Nat.shiftRight_eq_div_pow,Int.fdiv_eq_ediv_of_nonneg _ (Int.le_of_lt (Int.pow_pos (by omega)))]
  norm_cast
 have h1:x >>> i ≤ x:=by rw [Nat.shiftRight_eq_div_pow]; exact Nat.div_le_self _ _
 have e2:vbits .and .u16 ((x >>> i:Nat):Int) 1=(((x >>> i) &&& 1:Nat):Int):=by
  generalize x >>> i=y at *
  have e:(BitVec.ofInt 16 ((y:Nat):Int) &&& BitVec.ofInt 16 ((1:Nat):Int)).toNat=y &&& 1:=by
   rw [BitVec.toNat_and,BitVec.toNat_ofInt,BitVec.toNat_ofInt]
   congr 1
   ·omega
  show IntKind.wrap .u16 ((BitVec.ofInt 16 ((y:Nat):Int) &&& BitVec.ofInt 16 ((1:Nat):Int)).toNat:Int)=_
  rw [e,wrap_u16]
  have:y &&& 1 ≤ 1:=Nat.and_le_right
  omega
 rw [e1,e2,Nat.testBit]
 rw [Bool.eq_iff_iff]
 simp only [beq_iff_eq,Bool.not_eq_true',bne_eq_false_iff_eq]
 rw [Nat.and_comm,Nat.one_and_eq_mod_two]
 omega
theorem fill_facts {L:List Lot} {t nc ng:Int} (hl:L.length ≤ 12) (h:fillK L t nc ng (2 ^ L.length) ≠ []):(∀ a ∈ fillK L t nc ng (2 ^ L.length),0 ≤ a∧a < L.length)∧(fillK L t nc ng (2 ^ L.length)).Pairwise (· < ·)∧(∀ a ∈ fillK L t nc ng (2 ^ L.length),(lotAt L a).1=nc∧∀ b ∈ fillK L t nc ng (2 ^ L.length),farL (lotAt L a) (lotAt L b) ≤ t)∧ng ≤ gramsL L (fillK L t nc ng (2 ^ L.length)):=by
 rcases fillK_is (l:=L) (tl:=t) (nc:=nc) (ng:=ng) (2 ^ L.length) with e | ⟨s,s1,s2,s3,s4⟩
 ·exact (h e).elim
 rw [s4]
 have hlt:=setL_lt s2 (show L.length ≤ 64 by omega)
 have hne:=setL_ne s1
 have hpne:pickL L (setL s) ≠ []:=by simpa [pickL] using hne
 have hpl:(pickL L (setL s)).length=(setL s).length:=by simp [pickL]
 have hp1:0 < (setL s).length:=List.length_pos_iff.2 hne
 unfold fillOk alikeL at s3
 rw [alike_law hpne,Bool.and_eq_true,Bool.and_eq_true,beq_iff_eq,decide_eq_true_eq,alikeR_iff] at s3
 obtain ⟨⟨c0,g0⟩,al⟩:=s3
 rw [hpl] at al
 have hal:∀ a ∈ setL s,∀ b ∈ setL s,(lotAt L a).1=(lotAt L b).1∧farL (lotAt L a) (lotAt L b) ≤ t:=fun a ha b hb=>by
  obtain ⟨i,hi,rfl⟩:=List.getElem_of_mem ha
  obtain ⟨k,hk,rfl⟩:=List.getElem_of_mem hb
  have:=al i hi k hk
  rw [pickL_atS hi,pickL_atS hk,getD_nat hi,getD_nat hk] at this
  exact this
 refine ⟨hlt,?_,fun a ha=>⟨?_,fun b hb=>(hal a ha b hb).2⟩,g0⟩
 ·rw [setL_chosen s2 (by omega)]; exact chosenK_sorted _ _
 ·have:=(hal a ha _ (getD_memS hp1)).1
  exact this.trans c0
def al_law09_byteOf:AL (List Int × Int):=(.cons (.k (.list (.i .u8))) (.one (.k (.i .i64))))
def pre_law09_byteOf (d:List Int × Int):Prop:=d.1.length ≤ 9223372036854775807∧0 ≤ d.2∧∀ x ∈ d.1,0 ≤ x∧x ≤ 255
def res_law09_byteOf (d:List Int × Int):SV:=.val (.i .i64) (byteV d.1 d.2)
def obs_law09_byteOf (d:List Int × Int):List OB:=[]
def s_law09_byteOf:CSp:=mkSp al_law09_byteOf pre_law09_byteOf res_law09_byteOf obs_law09_byteOf
def vc_law09_byteOf (l:List Int) (i:Int):Prop :=
 (((lI l) == (0:Int))=true →
  ((0:Int)=(byteV l i)∧(True))) ∧
 (((lI l) == (0:Int))=false →
  ((lI l) ≠ 0)∧(0 ≤ (Int.tmod i (lI l)))∧((Int.tmod i (lI l)) < (List.length l))∧(I64 (gD l (Int.tmod i (lI l)) 0))∧((gD l (Int.tmod i (lI l)) 0)=(byteV l i)∧(True)))
def cx_law09_byteOf:Cx:=⟨[],[],16,[],0,[],[],[],[],false,[],[],[]⟩
def lp_law09_byteOf (l:List Int) (i:Int):List (Nat × LoopAnn):=[]
set_option maxRecDepth 100000 in
theorem vq_law09_byteOf (d:List Int × Int):gwp (cx_law09_byteOf) (lp_law09_byteOf d.1 d.2) c68 0 (gend [.tmp 4] (res_law09_byteOf d) (obs_law09_byteOf d)) (gstart 16 (AL.can al_law09_byteOf d))=vc_law09_byteOf d.1 d.2:=by kernel_rfl
abbrev Ok_law09_byteOf:Prop:=OkC Tryz.prog 68 s_law09_byteOf
theorem mk_law09_byteOf (h:∀ (l:List Int) (i:Int),(l.length ≤ 9223372036854775807∧0 ≤ i∧∀ x ∈ l,0 ≤ x∧x ≤ 255)→vc_law09_byteOf l i):OkC Tryz.prog 68 s_law09_byteOf :=
 okC_vc fun68 mixed (C:=cx_law09_byteOf) (V:=fun (d:List Int × Int)=>vc_law09_byteOf d.1 d.2) ⟨.nil,XsOk.nil,ItsOk.nil,YlOk.nil,IysOk.nil⟩ (vq_law09_byteOf) fun d hp=>h d.1 d.2 hp
theorem ok_law09_byteOf:Ok_law09_byteOf:=mk_law09_byteOf fun l i h=>by
 obtain ⟨h1,h2,h3⟩:=h
 unfold vc_law09_byteOf; (try delta lI gD sT I64)
 refine ⟨fun hx=>?_,fun hx=>?_⟩
 ·have:l.length=0:=by have:=eq_of_beq hx; omega
  unfold byteV; rw [if_pos this]; exact (by and_intros <;> first | rfl | trivial | simp)
 ·have h0:l.length ≠ 0:=by have:=ne_of_beq_false hx; omega
  have e:=Int.tmod_eq_emod_of_nonneg (b:=(l.length:Int)) h2
  have g1:=Int.emod_nonneg i (show (l.length:Int) ≠ 0 by omega)
  have g2:=Int.emod_lt_of_pos i (show (0:Int) < l.length by omega)
  have g3:(Int.tmod i l.length).toNat < l.length:=by omega
  have g4:=h3 _ (by rw [getD_nat g3]; exact List.getElem_mem g3:l.getD (Int.tmod i l.length).toNat 0 ∈ l)
  refine ⟨by omega,by omega,by omega,by rw [InK_i64]; omega,?_⟩
  unfold byteV; rw [if_neg h0]; exact (by and_intros <;> first | rfl | trivial | simp)
def al_law09_Vat_lots:AL ((List (Int × Int × Int × Int)) × List Int):=(.one (.agg (.cons (.k (.list (.pair (.i .u8) (.pair (.i .u8) (.pair (.i .u8) (.i .u8)))))) (.one (.k (.list (.i .u8)))))))
def pre_law09_Vat_lots (d:(List (Int × Int × Int × Int)) × List Int):Prop:=vatOk d.1 d.2
def res_law09_Vat_lots (d:(List (Int × Int × Int × Int)) × List Int):SV:=.lst 0
def obs_law09_Vat_lots (d:(List (Int × Int × Int × Int)) × List Int):List OB:=[.lst 78 (.pair (.i .i64) (.pair (.pair (.i .i64) (.i .i64)) (.i .i64))) (vatL d.1) false]
def s_law09_Vat_lots:CSp:=mkSp al_law09_Vat_lots pre_law09_Vat_lots res_law09_Vat_lots obs_law09_Vat_lots
def vc_law09_Vat_lots (vl:List (Int × Int × Int × Int)) (vt:List Int):Prop :=
 ∃ (e3:Unit) (d30:(List (Int × (Int × Int) × Int)) × Int),((True∧True∧(0:Int)=d30.2∧True)∧((vl=vl∧vt=vt∧(([]:List SV)=[]))∧(([]:List (Int × (Int × Int) × Int))=d30.1∧false=false)∧True)) ∧
 LoopP (fun (d3:(List (Int × (Int × Int) × Int)) × Int) (q3:((List (Int × (Int × Int) × Int)) × Int)→Prop) =>
  (((decide (d3.2 < (lI vl))) && (decide (d3.2 < (9:Int))))=true →
   (0 ≤ d3.2)∧(d3.2 < (List.length vl))∧(I64 (gD vl d3.2 (0,(0,(0,0)))).1)∧((128:Int) ≠ 0)∧(I64 (Int.tdiv (gD vl d3.2 (0,(0,(0,0)))).1 (128:Int)))∧(I64 (gD vl d3.2 (0,(0,(0,0)))).2.1)∧(I64 ((2:Int) * (gD vl d3.2 (0,(0,(0,0)))).2.1))∧(I64 (gD vl d3.2 (0,(0,(0,0)))).2.1)∧(I64 ((2:Int) * (gD vl d3.2 (0,(0,(0,0)))).2.1))∧(I64 (gD vl d3.2 (0,(0,(0,0)))).2.2.1)∧((40:Int) ≠ 0)∧(I64 (((2:Int) * (gD vl d3.2 (0,(0,(0,0)))).2.1) + (Int.tmod (gD vl d3.2 (0,(0,(0,0)))).2.2.1 (40:Int))))∧(True)∧(I64 (gD vl d3.2 (0,(0,(0,0)))).2.2.2)∧(I64 ((10:Int) * (gD vl d3.2 (0,(0,(0,0)))).2.2.2))∧(I64 ((1:Int) + ((10:Int) * (gD vl d3.2 (0,(0,(0,0)))).2.2.2)))∧(((List.length d3.1) + (List.length [((Int.tdiv (gD vl d3.2 (0,(0,(0,0)))).1 (128:Int)),((((2:Int) * (gD vl d3.2 (0,(0,(0,0)))).2.1),(((2:Int) * (gD vl d3.2 (0,(0,(0,0)))).2.1) + (Int.tmod (gD vl d3.2 (0,(0,(0,0)))).2.2.1 (40:Int)))),((1:Int) + ((10:Int) * (gD vl d3.2 (0,(0,(0,0)))).2.2.2))))])) * 32 ≤ 70368744177664)∧(I64 (d3.2 + (1:Int)))∧(∃ d4:(List (Int × (Int × Int) × Int)) × Int,((True∧True∧(d3.2 + (1:Int))=d4.2∧True)∧((vl=vl∧vt=vt∧(([]:List SV)=[]))∧((d3.1++[((Int.tdiv (gD vl d3.2 (0,(0,(0,0)))).1 (128:Int)),((((2:Int) * (gD vl d3.2 (0,(0,(0,0)))).2.1),(((2:Int) * (gD vl d3.2 (0,(0,(0,0)))).2.1) + (Int.tmod (gD vl d3.2 (0,(0,(0,0)))).2.2.1 (40:Int)))),((1:Int) + ((10:Int) * (gD vl d3.2 (0,(0,(0,0)))).2.2.2))))])=d4.1∧false=false)∧True))∧q3 d4)) ∧
  (((decide (d3.2 < (lI vl))) && (decide (d3.2 < (9:Int))))=false →
   (True∧((d3.1=(vatL vl)∧false=false)∧True)))) d30
def cx_law09_Vat_lots:Cx:=⟨[(78,(.pair (.i .i64) (.pair (.pair (.i .i64) (.i .i64)) (.i .i64))))],[(48,s_law09_span)],51,[],0,[],[],[],[],false,[],[],[]⟩
def lp_law09_Vat_lots (vl:List (Int × Int × Int × Int)) (vt:List Int):List (Nat × LoopAnn):=[(0,⟨Unit,(List (Int × (Int × Int) × Int)) × Int,[1,3,4],fun e x=>[.box 1 0,.lst 6,.val (.i .i64) x.2],fun e x=>[(1,.slot 1,.cells [.val (.list (.pair (.i .u8) (.pair (.i .u8) (.pair (.i .u8) (.i .u8))))) vl,.val (.list (.i .u8)) vt] (some 74)),(6,.slot 3,.lst 78 (.pair (.i .i64) (.pair (.pair (.i .i64) (.i .i64)) (.i .i64))) x.1 false)]⟩)]
set_option maxRecDepth 100000 in
theorem vq_law09_Vat_lots (d:(List (Int × Int × Int × Int)) × List Int):gwp (cx_law09_Vat_lots) (lp_law09_Vat_lots d.1 d.2) c36 0 (gend [.tmp 2] (res_law09_Vat_lots d) (obs_law09_Vat_lots d)) (gstart 51 (AL.can al_law09_Vat_lots d))=vc_law09_Vat_lots d.1 d.2:=by kernel_rfl
abbrev Ok_law09_Vat_lots:Prop:=OkC Tryz.prog 36 s_law09_Vat_lots
theorem mk_law09_Vat_lots (h:∀ (vl:List (Int × Int × Int × Int)) (vt:List Int),(vatOk vl vt)→vc_law09_Vat_lots vl vt):OkC Tryz.prog 36 s_law09_Vat_lots :=
 okC_vc fun36 mixed (C:=cx_law09_Vat_lots) (V:=fun (d:(List (Int × Int × Int × Int)) × List Int)=>vc_law09_Vat_lots d.1 d.2) ⟨(.cons ok_law09_span .nil),XsOk.nil,ItsOk.nil,YlOk.nil,IysOk.nil⟩ (vq_law09_Vat_lots) fun d hp=>h d.1 d.2 hp
theorem ok_law09_Vat_lots:Ok_law09_Vat_lots:=mk_law09_Vat_lots fun vl vt h=>by
 obtain ⟨h1,h2,h3,h4⟩:=h
 unfold vc_law09_Vat_lots; (try delta lI gD sT I64)
 refine ⟨(),([],0),(by and_intros <;> first | rfl | trivial | simp),?_⟩
 refine ⟨fun d=>∃ k:Nat,d.2=k∧k ≤ 9∧k ≤ vl.length∧d.1=(vl.take k).map vatLot,fun d=>9 - d.2.toNat,⟨0,rfl,by omega,by omega,rfl⟩,?_⟩
 rintro ⟨_,_⟩ ⟨k,rfl,k1,k2,rfl⟩
 dsimp only
 simp only [Int.toNat_natCast]
 refine ⟨fun hc=>?_,fun hc=>?_⟩
 ·rw [Bool.and_eq_true,decide_eq_true_eq,decide_eq_true_eq] at hc
  have hkl:k < vl.length:=by omega
  have hd:vl.getD k (0,(0,(0,0)))=vl[k]:=getD_nat hkl
  rw [hd]
  obtain ⟨⟨a1,a2⟩,⟨b1,b2⟩,⟨c1,c2⟩,d1,d2⟩:=h3 _ (List.getElem_mem hkl)
  have e1:=Int.tdiv_eq_ediv_of_nonneg (b:=128) a1
  have e2:=Int.tmod_eq_emod_of_nonneg (b:=40) c1
  have hl:((vl.take k).map vatLot).length ≤ 9:=by rw [List.length_map,List.length_take]; omega
  simp only [InK_i64,List.length_cons,List.length_nil]
  refine ⟨by omega,by omega,by omega,by omega,by omega,by omega,by omega,by omega,by omega,by omega,by omega,by omega,trivial,by omega,by omega,by omega,by omega,by omega,((vl.take (k + 1)).map vatLot,(k:Int) + 1),⟨(by and_intros <;> first | rfl | trivial | simp),?_⟩,⟨k + 1,rfl,by omega,by omega,rfl⟩,by show 9 - ((k:Int) + 1).toNat < 9 - k; omega⟩
  rw [take_succ_eq hkl,List.map_append]
  exact (by and_intros <;> first | rfl | trivial | simp)
 ·have hk:k=9 ∨ k=vl.length:=by
   apply Classical.byContradiction
   intro h9
   rw [decide_eq_true (show (k:Int) < vl.length by omega),decide_eq_true (show (k:Int) < 9 by omega)] at hc; cases hc
  have:(vl.take k).map vatLot=vatL vl:=by
   unfold vatL
   rcases hk with rfl | rfl
   ·rfl
   ·rw [List.take_length,List.take_of_length_le (by omega:vl.length ≤ 9)]
  rw [this]
  exact (by and_intros <;> first | rfl | trivial | simp)
def al_law09_Vat_thread:AL (((List (Int × Int × Int × Int)) × List Int) × (Int × Int × Int × Int) × Int):=(.cons (.agg (.cons (.k (.list (.pair (.i .u8) (.pair (.i .u8) (.pair (.i .u8) (.i .u8)))))) (.one (.k (.list (.i .u8)))))) (.cons (.agg (.cons (.k (.i .i64)) (.cons (.k (.i .i64)) (.cons (.k (.i .i64)) (.one (.k (.i .i64))))))) (.one (.k (.i .i64)))))
def pre_law09_Vat_thread (d:((List (Int × Int × Int × Int)) × List Int) × (Int × Int × Int × Int) × Int):Prop:=vatOk d.1.1 d.1.2∧0 ≤ d.2.2∧0 ≤ d.2.1.2.1∧d.2.1.2.1 ≤ d.2.1.2.2.1∧d.2.1.2.2.1 ≤ 1000
def res_law09_Vat_thread (d:((List (Int × Int × Int × Int)) × List Int) × (Int × Int × Int × Int) × Int):SV:=.val (.i .i64) (thrV d.1.2 (d.2.1.1,(d.2.1.2.1,d.2.1.2.2.1),d.2.1.2.2.2) d.2.2)
def obs_law09_Vat_thread (d:((List (Int × Int × Int × Int)) × List Int) × (Int × Int × Int × Int) × Int):List OB:=[]
def s_law09_Vat_thread:CSp:=mkSp al_law09_Vat_thread pre_law09_Vat_thread res_law09_Vat_thread obs_law09_Vat_thread
def vc_law09_Vat_thread (vl:List (Int × Int × Int × Int)) (vt:List Int) (lc:Int) (lo:Int) (hi:Int) (lg:Int) (i:Int):Prop :=
 (vt.length ≤ 9223372036854775807∧0 ≤ i∧∀ x ∈ vt,0 ≤ x∧x ≤ 255)∧(I64 (hi - lo))∧(I64 ((byteV vt i) * (hi - lo)))∧((255:Int) ≠ 0)∧(I64 (Int.tdiv ((byteV vt i) * (hi - lo)) (255:Int)))∧(I64 (lo + (Int.tdiv ((byteV vt i) * (hi - lo)) (255:Int))))∧((lo + (Int.tdiv ((byteV vt i) * (hi - lo)) (255:Int)))=(thrV vt (lc,(lo,hi),lg) i)∧(True))
def cx_law09_Vat_thread:Cx:=⟨[],[(68,s_law09_byteOf)],24,[],0,[],[],[],[],false,[],[],[]⟩
def lp_law09_Vat_thread (vl:List (Int × Int × Int × Int)) (vt:List Int) (lc:Int) (lo:Int) (hi:Int) (lg:Int) (i:Int):List (Nat × LoopAnn):=[]
set_option maxRecDepth 100000 in
theorem vq_law09_Vat_thread (d:((List (Int × Int × Int × Int)) × List Int) × (Int × Int × Int × Int) × Int):gwp (cx_law09_Vat_thread) (lp_law09_Vat_thread d.1.1 d.1.2 d.2.1.1 d.2.1.2.1 d.2.1.2.2.1 d.2.1.2.2.2 d.2.2) c38 0 (gend [.tmp 6] (res_law09_Vat_thread d) (obs_law09_Vat_thread d)) (gstart 24 (AL.can al_law09_Vat_thread d))=vc_law09_Vat_thread d.1.1 d.1.2 d.2.1.1 d.2.1.2.1 d.2.1.2.2.1 d.2.1.2.2.2 d.2.2:=by kernel_rfl
abbrev Ok_law09_Vat_thread:Prop:=OkC Tryz.prog 38 s_law09_Vat_thread
theorem mk_law09_Vat_thread (h:∀ (vl:List (Int × Int × Int × Int)) (vt:List Int) (lc:Int) (lo:Int) (hi:Int) (lg:Int) (i:Int),(vatOk vl vt∧0 ≤ i∧0 ≤ lo∧lo ≤ hi∧hi ≤ 1000)→vc_law09_Vat_thread vl vt lc lo hi lg i):OkC Tryz.prog 38 s_law09_Vat_thread :=
 okC_vc fun38 mixed (C:=cx_law09_Vat_thread) (V:=fun (d:((List (Int × Int × Int × Int)) × List Int) × (Int × Int × Int × Int) × Int)=>vc_law09_Vat_thread d.1.1 d.1.2 d.2.1.1 d.2.1.2.1 d.2.1.2.2.1 d.2.1.2.2.2 d.2.2) ⟨(.cons ok_law09_byteOf .nil),XsOk.nil,ItsOk.nil,YlOk.nil,IysOk.nil⟩ (vq_law09_Vat_thread) fun d hp=>h d.1.1 d.1.2 d.2.1.1 d.2.1.2.1 d.2.1.2.2.1 d.2.1.2.2.2 d.2.2 hp
theorem ok_law09_Vat_thread:Ok_law09_Vat_thread:=mk_law09_Vat_thread fun vl vt lc lo hi lg i h=>by
 obtain ⟨⟨h1,h2,h3,h4⟩,h5,h6,h7,h8⟩:=h
 unfold vc_law09_Vat_thread; (try delta lI gD sT I64)
 obtain ⟨b0,b1⟩:=byteV_in h4 h5
 have ht:=thrV_in (x:=(lc,(lo,hi),lg)) h4 h5 h7
 have hw0:0 ≤ hi - lo:=by omega
 have p0:0 ≤ byteV vt i * (hi - lo):=Int.mul_nonneg b0 hw0
 have p1:byteV vt i * (hi - lo) ≤ 255 * (hi - lo):=Int.mul_le_mul_of_nonneg_right b1 hw0
 have e:=Int.tdiv_eq_ediv_of_nonneg (b:=255) p0
 simp only [InK_i64]
 exact ⟨⟨h2,h5,h4⟩,by omega,by omega,by omega,by omega,by omega,rfl,trivial⟩
def al_law09_far:AL ((Int × Int × Int × Int) × Int × Int × Int × Int):=(.cons (.agg (.cons (.k (.i .i64)) (.cons (.k (.i .i64)) (.cons (.k (.i .i64)) (.one (.k (.i .i64))))))) (.one (.agg (.cons (.k (.i .i64)) (.cons (.k (.i .i64)) (.cons (.k (.i .i64)) (.one (.k (.i .i64)))))))))
def pre_law09_far (d:(Int × Int × Int × Int) × Int × Int × Int × Int):Prop:=0 ≤ d.1.2.1∧d.1.2.1 ≤ 1000∧0 ≤ d.1.2.2.1∧d.1.2.2.1 ≤ 1000∧0 ≤ d.2.2.1∧d.2.2.1 ≤ 1000∧0 ≤ d.2.2.2.1∧d.2.2.2.1 ≤ 1000
def res_law09_far (d:(Int × Int × Int × Int) × Int × Int × Int × Int):SV:=.val (.i .i64) (farV (d.1.1,(d.1.2.1,d.1.2.2.1),d.1.2.2.2) (d.2.1,(d.2.2.1,d.2.2.2.1),d.2.2.2.2))
def obs_law09_far (d:(Int × Int × Int × Int) × Int × Int × Int × Int):List OB:=[]
def s_law09_far:CSp:=mkSp al_law09_far pre_law09_far res_law09_far obs_law09_far
def vc_law09_far (lc:Int) (lo:Int) (hi:Int) (lg:Int) (mc:Int) (mo:Int) (mi:Int) (mg:Int):Prop :=
 ((lc != mc)=true →
  ((10000:Int)=(farV (lc,(lo,hi),lg) (mc,(mo,mi),mg))∧(True))) ∧
 ((lc != mc)=false →
  (I64 (hi - mo))∧(I64 (mi - lo))∧(I64 (hi - lo))∧(I64 (mi - mo))∧((gmax (gmax (gmax (hi - mo) (mi - lo)) (hi - lo)) (mi - mo))=(farV (lc,(lo,hi),lg) (mc,(mo,mi),mg))∧(True)))
def cx_law09_far:Cx:=⟨[],[],39,[],0,[],[],[],[],false,[],[],[]⟩
def lp_law09_far (lc:Int) (lo:Int) (hi:Int) (lg:Int) (mc:Int) (mo:Int) (mi:Int) (mg:Int):List (Nat × LoopAnn):=[]
set_option maxRecDepth 100000 in
theorem vq_law09_far (d:(Int × Int × Int × Int) × Int × Int × Int × Int):gwp (cx_law09_far) (lp_law09_far d.1.1 d.1.2.1 d.1.2.2.1 d.1.2.2.2 d.2.1 d.2.2.1 d.2.2.2.1 d.2.2.2.2) c37 0 (gend [.tmp 4] (res_law09_far d) (obs_law09_far d)) (gstart 39 (AL.can al_law09_far d))=vc_law09_far d.1.1 d.1.2.1 d.1.2.2.1 d.1.2.2.2 d.2.1 d.2.2.1 d.2.2.2.1 d.2.2.2.2:=by kernel_rfl
abbrev Ok_law09_far:Prop:=OkC Tryz.prog 37 s_law09_far
theorem mk_law09_far (h:∀ (lc:Int) (lo:Int) (hi:Int) (lg:Int) (mc:Int) (mo:Int) (mi:Int) (mg:Int),(0 ≤ lo∧lo ≤ 1000∧0 ≤ hi∧hi ≤ 1000∧0 ≤ mo∧mo ≤ 1000∧0 ≤ mi∧mi ≤ 1000)→vc_law09_far lc lo hi lg mc mo mi mg):OkC Tryz.prog 37 s_law09_far :=
 okC_vc fun37 mixed (C:=cx_law09_far) (V:=fun (d:(Int × Int × Int × Int) × Int × Int × Int × Int)=>vc_law09_far d.1.1 d.1.2.1 d.1.2.2.1 d.1.2.2.2 d.2.1 d.2.2.1 d.2.2.2.1 d.2.2.2.2) ⟨.nil,XsOk.nil,ItsOk.nil,YlOk.nil,IysOk.nil⟩ (vq_law09_far) fun d hp=>h d.1.1 d.1.2.1 d.1.2.2.1 d.1.2.2.2 d.2.1 d.2.2.1 d.2.2.2.1 d.2.2.2.2 hp
theorem ok_law09_far:Ok_law09_far:=mk_law09_far fun lc lo hi lg mc mo mi mg h=>by
 obtain ⟨h1,h2,h3,h4,h5,h6,h7,h8⟩:=h
 unfold vc_law09_far; (try delta lI gD sT I64)
 refine ⟨fun hx=>?_,fun hx=>?_⟩
 ·have hx:lc ≠ mc:=by simpa using hx
  unfold farV; rw [if_pos hx]; exact (by and_intros <;> first | rfl | trivial | simp)
 ·have hx:lc=mc:=by simpa using hx
  subst hx
  simp only [InK_i64]
  refine ⟨by omega,by omega,by omega,by omega,?_⟩
  unfold farV; rw [if_neg (by simp)]; exact (by and_intros <;> first | rfl | trivial | simp)
end Go.Proofs.Tryz
set_option linter.unusedVariables false
namespace Go.Proofs.Tryz
open Go Go.V Go.Proofs
def al_law09_ShadeThreads:AL (((List (Int × Int × Int × Int)) × List Int) × Int × Int × Int):=(.cons (.agg (.cons (.k (.list (.pair (.i .u8) (.pair (.i .u8) (.pair (.i .u8) (.i .u8)))))) (.one (.k (.list (.i .u8)))))) (.cons (.k (.i .u16)) (.one (.agg (.cons (.k (.i .u8)) (.one (.k (.i .u8))))))))
def pre_law09_ShadeThreads (d:((List (Int × Int × Int × Int)) × List Int) × Int × Int × Int):Prop:=vatOk d.1.1 d.1.2∧0 ≤ d.2.1∧d.2.1 ≤ 65535∧0 ≤ d.2.2.1∧d.2.2.1 ≤ 255∧0 ≤ d.2.2.2∧d.2.2.2 ≤ 255
def res_law09_ShadeThreads (d:((List (Int × Int × Int × Int)) × List Int) × Int × Int × Int):SV:=.val .bo true
def obs_law09_ShadeThreads (d:((List (Int × Int × Int × Int)) × List Int) × Int × Int × Int):List OB:=[]
def s_law09_ShadeThreads:CSp:=mkSp al_law09_ShadeThreads pre_law09_ShadeThreads res_law09_ShadeThreads obs_law09_ShadeThreads
def vc_law09_ShadeThreads (vl:List (Int × Int × Int × Int)) (vt:List Int) (so:Int) (b0:Int) (b1:Int):Prop :=
 (vatOk vl vt)∧∃ (e3:Unit) (d30:(List Int) × Int × Int × Int × Int × Int × Bool × Int),((so=so∧True∧True∧True∧True∧(1048576:Int)=d30.2.1∧(0:Int)=d30.2.2.1∧True∧(0:Int)=d30.2.2.2.2.2.1∧true=d30.2.2.2.2.2.2.1∧(0:Int)=d30.2.2.2.2.2.2.2∧True)∧((vl=vl∧vt=vt∧(([]:List SV)=[]))∧(b0=b0∧b1=b1∧(([]:List SV)=[]))∧((vatL vl)=(vatL vl)∧false=false)∧(([]:List Int)=d30.1∧false=false)∧((1048576:Int)=d30.2.2.2.1∧(0:Int)=d30.2.2.2.2.1∧(([]:List SV)=[]))∧True)) ∧
 LoopP (fun (d3:(List Int) × Int × Int × Int × Int × Int × Bool × Int) (q3:((List Int) × Int × Int × Int × Int × Int × Bool × Int)→Prop) =>
  ∀ (y159:Bool),y159=(decide (d3.2.2.2.2.2.2.2 < (lI (vatL vl))))→(y159=true →
   (InK .u64 d3.2.2.2.2.2.2.2)∧(0 ≤ d3.2.2.2.2.2.2.2)∧∀ (y160:Int),y160=(shrI .u16 so d3.2.2.2.2.2.2.2)→∀ (y161:Int),y161=(vbits .and .u16 y160 (1:Int))→∀ (y162:Bool),y162=(y161 == (0:Int))→(y162=true →
    (I64 (d3.2.2.2.2.2.2.2 + (1:Int)))∧(∃ d4:(List Int) × Int × Int × Int × Int × Int × Bool × Int,((so=so∧True∧True∧True∧True∧d3.2.1=d4.2.1∧d3.2.2.1=d4.2.2.1∧True∧d3.2.2.2.2.2.1=d4.2.2.2.2.2.1∧d3.2.2.2.2.2.2.1=d4.2.2.2.2.2.2.1∧(d3.2.2.2.2.2.2.2 + (1:Int))=d4.2.2.2.2.2.2.2∧True)∧((vl=vl∧vt=vt∧(([]:List SV)=[]))∧(b0=b0∧b1=b1∧(([]:List SV)=[]))∧((vatL vl)=(vatL vl)∧false=false)∧(d3.1=d4.1∧false=false)∧(d3.2.2.2.1=d4.2.2.2.1∧d3.2.2.2.2.1=d4.2.2.2.2.1∧(([]:List SV)=[]))∧True))∧q3 d4)) ∧
   (y162=false →
    ∃ (e7:(List Int) × Int × Int × Int × Bool × Int) (d70:Int × Int × Int),((so=so∧True∧True∧True∧True∧d3.2.1=d70.1∧d3.2.2.1=d70.2.1∧True∧d3.2.2.2.2.2.1=e7.2.2.2.1∧d3.2.2.2.2.2.2.1=e7.2.2.2.2.1∧d3.2.2.2.2.2.2.2=e7.2.2.2.2.2∧(0:Int)=d70.2.2∧True)∧((vl=vl∧vt=vt∧(([]:List SV)=[]))∧(b0=b0∧b1=b1∧(([]:List SV)=[]))∧((vatL vl)=(vatL vl)∧false=false)∧(d3.1=e7.1∧false=false)∧(d3.2.2.2.1=e7.2.1∧d3.2.2.2.2.1=e7.2.2.1∧(([]:List SV)=[]))∧True)) ∧
    LoopP (fun (d7:Int × Int × Int) (q7:(Int × Int × Int)→Prop) =>
     ∀ (y177:Bool),y177=(decide (d7.2.2 < (2:Int)))→(y177=true →
      (0 ≤ e7.2.2.2.2.2)∧(e7.2.2.2.2.2 < (List.length (vatL vl)))∧∀ (y178:Int),y178=(gD (vatL vl) e7.2.2.2.2.2 (0,((0,0),0))).1→∀ (y179:Int),y179=(gD (vatL vl) e7.2.2.2.2.2 (0,((0,0),0))).2.1.1→∀ (y180:Int),y180=(gD (vatL vl) e7.2.2.2.2.2 (0,((0,0),0))).2.1.2→∀ (y181:Int),y181=(gD (vatL vl) e7.2.2.2.2.2 (0,((0,0),0))).2.2→(I64 ((2:Int) * e7.2.2.2.2.2))∧(I64 (((2:Int) * e7.2.2.2.2.2) + d7.2.2))∧(vatOk vl vt∧0 ≤ (((2:Int) * e7.2.2.2.2.2) + d7.2.2)∧0 ≤ y179∧y179 ≤ y180∧y180 ≤ 1000)∧∀ (y182:Int),y182=(gmin d7.1 (thrV vt (y178,(y179,y180),y181) (((2:Int) * e7.2.2.2.2.2) + d7.2.2)))→∀ (y183:Int),y183=(gmax d7.2.1 (thrV vt (y178,(y179,y180),y181) (((2:Int) * e7.2.2.2.2.2) + d7.2.2)))→(I64 (d7.2.2 + (1:Int)))∧(∃ d8:Int × Int × Int,((so=so∧True∧True∧True∧True∧y182=d8.1∧y183=d8.2.1∧True∧e7.2.2.2.1=e7.2.2.2.1∧e7.2.2.2.2.1=e7.2.2.2.2.1∧e7.2.2.2.2.2=e7.2.2.2.2.2∧(d7.2.2 + (1:Int))=d8.2.2∧True)∧((vl=vl∧vt=vt∧(([]:List SV)=[]))∧(b0=b0∧b1=b1∧(([]:List SV)=[]))∧((vatL vl)=(vatL vl)∧false=false)∧(e7.1=e7.1∧false=false)∧(e7.2.1=e7.2.1∧e7.2.2.1=e7.2.2.1∧(([]:List SV)=[]))∧True))∧q7 d8)) ∧
     (y177=false →
      ∃ (e11:(List Int) × Int × Int × Int × Int × Int × Int) (d110:Bool × Int),((so=so∧True∧True∧True∧True∧d7.1=e11.2.1∧d7.2.1=e11.2.2.1∧True∧e7.2.2.2.1=e11.2.2.2.2.2.1∧e7.2.2.2.2.1=d110.1∧e7.2.2.2.2.2=e11.2.2.2.2.2.2∧(0:Int)=d110.2∧True)∧((vl=vl∧vt=vt∧(([]:List SV)=[]))∧(b0=b0∧b1=b1∧(([]:List SV)=[]))∧((vatL vl)=(vatL vl)∧false=false)∧(e7.1=e11.1∧false=false)∧(e7.2.1=e11.2.2.2.1∧e7.2.2.1=e11.2.2.2.2.1∧(([]:List SV)=[]))∧True)) ∧
      LoopP (fun (d11:Bool × Int) (q11:(Bool × Int)→Prop) =>
       ∀ (y208:Bool),y208=(decide (d11.2 < (lI e11.1)))→(y208=true →
        (d11.1=true→0 ≤ e11.2.2.2.2.2.2)∧(d11.1=true→e11.2.2.2.2.2.2 < (List.length (vatL vl)))∧∀ (y209:Int),y209=(gD (vatL vl) e11.2.2.2.2.2.2 (0,((0,0),0))).1→∀ (y210:Int),y210=(gD (vatL vl) e11.2.2.2.2.2.2 (0,((0,0),0))).2.1.1→∀ (y211:Int),y211=(gD (vatL vl) e11.2.2.2.2.2.2 (0,((0,0),0))).2.1.2→∀ (y212:Int),y212=(gD (vatL vl) e11.2.2.2.2.2.2 (0,((0,0),0))).2.2→(d11.1=true→0 ≤ d11.2)∧(d11.1=true→d11.2 < (List.length e11.1))∧∀ (y213:Int),y213=(gD e11.1 d11.2 0)→(d11.1=true→0 ≤ y213)∧(d11.1=true→y213 < (List.length (vatL vl)))∧∀ (y214:Int),y214=(gD (vatL vl) y213 (0,((0,0),0))).1→∀ (y215:Int),y215=(gD (vatL vl) y213 (0,((0,0),0))).2.1.1→∀ (y216:Int),y216=(gD (vatL vl) y213 (0,((0,0),0))).2.1.2→∀ (y217:Int),y217=(gD (vatL vl) y213 (0,((0,0),0))).2.2→(d11.1=true→0 ≤ y210∧y210 ≤ 1000∧0 ≤ y211∧y211 ≤ 1000∧0 ≤ y215∧y215 ≤ 1000∧0 ≤ y216∧y216 ≤ 1000)∧(d11.1=true→InK .i64 b0)∧∀ (y218:Bool),y218=(decide ((farV (y209,(y210,y211),y212) (y214,(y215,y216),y217)) ≤ b0))→∀ (y219:Bool),y219=(d11.1 && y218)→(I64 (d11.2 + (1:Int)))∧(∃ d12:Bool × Int,((so=so∧True∧True∧True∧True∧e11.2.1=e11.2.1∧e11.2.2.1=e11.2.2.1∧True∧e11.2.2.2.2.2.1=e11.2.2.2.2.2.1∧y219=d12.1∧e11.2.2.2.2.2.2=e11.2.2.2.2.2.2∧(d11.2 + (1:Int))=d12.2∧True)∧((vl=vl∧vt=vt∧(([]:List SV)=[]))∧(b0=b0∧b1=b1∧(([]:List SV)=[]))∧((vatL vl)=(vatL vl)∧false=false)∧(e11.1=e11.1∧false=false)∧(e11.2.2.2.1=e11.2.2.2.1∧e11.2.2.2.2.1=e11.2.2.2.2.1∧(([]:List SV)=[]))∧True))∧q11 d12)) ∧
       (y208=false →
        (d11.1=true→0 ≤ e11.2.2.2.2.2.2)∧(d11.1=true→e11.2.2.2.2.2.2 < (List.length (vatL vl)))∧∀ (y220:Int),y220=(gD (vatL vl) e11.2.2.2.2.2.2 (0,((0,0),0))).1→∀ (y221:Int),y221=(gD (vatL vl) e11.2.2.2.2.2.2 (0,((0,0),0))).2.1.1→∀ (y222:Int),y222=(gD (vatL vl) e11.2.2.2.2.2.2 (0,((0,0),0))).2.1.2→∀ (y223:Int),y223=(gD (vatL vl) e11.2.2.2.2.2.2 (0,((0,0),0))).2.2→(d11.1=true→0 ≤ e11.2.2.2.2.2.2)∧(d11.1=true→e11.2.2.2.2.2.2 < (List.length (vatL vl)))∧∀ (y224:Int),y224=(gD (vatL vl) e11.2.2.2.2.2.2 (0,((0,0),0))).1→∀ (y225:Int),y225=(gD (vatL vl) e11.2.2.2.2.2.2 (0,((0,0),0))).2.1.1→∀ (y226:Int),y226=(gD (vatL vl) e11.2.2.2.2.2.2 (0,((0,0),0))).2.1.2→∀ (y227:Int),y227=(gD (vatL vl) e11.2.2.2.2.2.2 (0,((0,0),0))).2.2→(d11.1=true→0 ≤ y221∧y221 ≤ 1000∧0 ≤ y222∧y222 ≤ 1000∧0 ≤ y225∧y225 ≤ 1000∧0 ≤ y226∧y226 ≤ 1000)∧(d11.1=true→InK .i64 b0)∧∀ (y228:Bool),y228=(decide ((farV (y220,(y221,y222),y223) (y224,(y225,y226),y227)) ≤ b0))→∀ (y229:Bool),y229=(d11.1 && y228)→(y229=true→0 ≤ e11.2.2.2.2.2.2)∧(y229=true→e11.2.2.2.2.2.2 < (List.length (vatL vl)))∧∀ (y230:Int),y230=(gD (vatL vl) e11.2.2.2.2.2.2 (0,((0,0),0))).1→∀ (y231:Bool),y231=(y230 == (0:Int))→∀ (y232:Bool),y232=(y229 && y231)→(0 ≤ e11.2.2.2.2.2.2)∧(e11.2.2.2.2.2.2 < (List.length (vatL vl)))∧∀ (y233:Int),y233=(gD (vatL vl) e11.2.2.2.2.2.2 (0,((0,0),0))).2.1.1→∀ (y234:Int),y234=(gmin e11.2.2.2.1 y233)→(0 ≤ e11.2.2.2.2.2.2)∧(e11.2.2.2.2.2.2 < (List.length (vatL vl)))∧∀ (y235:Int),y235=(gD (vatL vl) e11.2.2.2.2.2.2 (0,((0,0),0))).2.1.2→∀ (y236:Int),y236=(gmax e11.2.2.2.2.1 y235)→(((List.length e11.1) + (List.length [e11.2.2.2.2.2.2])) * 8 ≤ 70368744177664)∧(0 ≤ e11.2.2.2.2.2.2)∧(e11.2.2.2.2.2.2 < (List.length (vatL vl)))∧∀ (y237:Int),y237=(gD (vatL vl) e11.2.2.2.2.2.2 (0,((0,0),0))).2.2→(I64 (e11.2.2.2.2.2.1 + y237))∧(I64 (e11.2.2.2.2.2.2 + (1:Int)))∧(∃ d13:(List Int) × Int × Int × Int × Int × Int × Bool × Int,((so=so∧True∧True∧True∧True∧e11.2.1=d13.2.1∧e11.2.2.1=d13.2.2.1∧True∧(e11.2.2.2.2.2.1 + y237)=d13.2.2.2.2.2.1∧y232=d13.2.2.2.2.2.2.1∧(e11.2.2.2.2.2.2 + (1:Int))=d13.2.2.2.2.2.2.2∧True)∧((vl=vl∧vt=vt∧(([]:List SV)=[]))∧(b0=b0∧b1=b1∧(([]:List SV)=[]))∧((vatL vl)=(vatL vl)∧false=false)∧((e11.1++[e11.2.2.2.2.2.2])=d13.1∧false=false)∧(y234=d13.2.2.2.1∧y236=d13.2.2.2.2.1∧(([]:List SV)=[]))∧True))∧q3 d13))) d110)) d70)) ∧
  (y159=false →
   (I64 b1)∧(I64 ((10:Int) * b1))∧(I64 ((1:Int) + ((10:Int) * b1)))∧((vatL vl).length ≤ 1000)∧(false=true→(vatL vl)=[])∧(I64 b0)∧((vatL vl).length ≤ 1000)∧∀ (y238:Bool),y238=((fillErr (vatL vl) b0 (0:Int) ((1:Int) + ((10:Int) * b1))) == (0:Int))→(y238=true →
    ∃ (e16:(List Int) × Int × Int × Int × Int × Int × Bool) (d160:Int × Int),((True∧True∧True∧d3.2.1=e16.2.1∧d3.2.2.1=e16.2.2.1∧True∧d3.2.2.2.2.2.1=e16.2.2.2.2.2.1∧d3.2.2.2.2.2.2.1=e16.2.2.2.2.2.2∧True∧True∧(0:Int)=d160.1∧(0:Int)=d160.2∧True)∧((b0=b0∧b1=b1∧(([]:List SV)=[]))∧((vatL vl)=(vatL vl)∧false=false)∧(d3.1=e16.1∧false=false)∧(d3.2.2.2.1=e16.2.2.2.1∧d3.2.2.2.2.1=e16.2.2.2.2.1∧(([]:List SV)=[]))∧((0:Int)=(0:Int)∧((1:Int) + ((10:Int) * b1))=((1:Int) + ((10:Int) * b1))∧(([]:List SV)=[]))∧((fillW (vatL vl) b0 (0:Int) ((1:Int) + ((10:Int) * b1)))=(fillW (vatL vl) b0 (0:Int) ((1:Int) + ((10:Int) * b1)))∧(fillW (vatL vl) b0 (0:Int) ((1:Int) + ((10:Int) * b1))).isEmpty=(List.isEmpty (fillW (vatL vl) b0 (0:Int) ((1:Int) + ((10:Int) * b1)))))∧True)) ∧
    LoopP (fun (d16:Int × Int) (q16:(Int × Int)→Prop) =>
     ∀ (y363:Bool),y363=(decide (d16.2 < (lI (fillW (vatL vl) b0 (0:Int) ((1:Int) + ((10:Int) * b1))))))→(y363=true →
      (0 ≤ d16.2)∧(d16.2 < (List.length (fillW (vatL vl) b0 (0:Int) ((1:Int) + ((10:Int) * b1)))))∧∀ (y364:Int),y364=(gD (fillW (vatL vl) b0 (0:Int) ((1:Int) + ((10:Int) * b1))) d16.2 0)→∀ (y365:Bool),y365=(decide (y364 < (0:Int)))→(y365=false→0 ≤ d16.2)∧(y365=false→d16.2 < (List.length (fillW (vatL vl) b0 (0:Int) ((1:Int) + ((10:Int) * b1)))))∧∀ (y366:Int),y366=(gD (fillW (vatL vl) b0 (0:Int) ((1:Int) + ((10:Int) * b1))) d16.2 0)→∀ (y367:Bool),y367=(decide (y366 ≥ (lI (vatL vl))))→∀ (y368:Bool),y368=(y365 || y367)→∀ (y369:Bool),y369=(decide (d16.2 > (0:Int)))→(y368=false→y369=true→0 ≤ d16.2)∧(y368=false→y369=true→d16.2 < (List.length (fillW (vatL vl) b0 (0:Int) ((1:Int) + ((10:Int) * b1)))))∧∀ (y370:Int),y370=(gD (fillW (vatL vl) b0 (0:Int) ((1:Int) + ((10:Int) * b1))) d16.2 0)→(y368=false→y369=true→InK .i64 (d16.2 - (1:Int)))∧(y368=false→y369=true→0 ≤ (d16.2 - (1:Int)))∧(y368=false→y369=true→(d16.2 - (1:Int)) < (List.length (fillW (vatL vl) b0 (0:Int) ((1:Int) + ((10:Int) * b1)))))∧∀ (y371:Int),y371=(gD (fillW (vatL vl) b0 (0:Int) ((1:Int) + ((10:Int) * b1))) (d16.2 - (1:Int)) 0)→∀ (y372:Bool),y372=(decide (y370 ≤ y371))→∀ (y373:Bool),y373=(y369 && y372)→∀ (y374:Bool),y374=(y368 || y373)→(y374=true →
       (false=true∧(True))) ∧
      (y374=false →
       ∃ (e19:(List Int) × Int × Int × Int × Int × Int × Bool × Int × Int) (d190:Int),((True∧True∧True∧e16.2.1=e19.2.1∧e16.2.2.1=e19.2.2.1∧True∧e16.2.2.2.2.2.1=e19.2.2.2.2.2.1∧e16.2.2.2.2.2.2=e19.2.2.2.2.2.2.1∧True∧True∧d16.1=e19.2.2.2.2.2.2.2.1∧d16.2=e19.2.2.2.2.2.2.2.2∧(0:Int)=d190∧True)∧((b0=b0∧b1=b1∧(([]:List SV)=[]))∧((vatL vl)=(vatL vl)∧false=false)∧(e16.1=e19.1∧false=false)∧(e16.2.2.2.1=e19.2.2.2.1∧e16.2.2.2.2.1=e19.2.2.2.2.1∧(([]:List SV)=[]))∧((0:Int)=(0:Int)∧((1:Int) + ((10:Int) * b1))=((1:Int) + ((10:Int) * b1))∧(([]:List SV)=[]))∧((fillW (vatL vl) b0 (0:Int) ((1:Int) + ((10:Int) * b1)))=(fillW (vatL vl) b0 (0:Int) ((1:Int) + ((10:Int) * b1)))∧(List.isEmpty (fillW (vatL vl) b0 (0:Int) ((1:Int) + ((10:Int) * b1))))=(List.isEmpty (fillW (vatL vl) b0 (0:Int) ((1:Int) + ((10:Int) * b1)))))∧True)) ∧
       LoopP (fun (d19:Int) (q19:(Int)→Prop) =>
        ∀ (y407:Bool),y407=(decide (d19 ≤ e19.2.2.2.2.2.2.2.2))→(y407=true →
         (0 ≤ e19.2.2.2.2.2.2.2.2)∧(e19.2.2.2.2.2.2.2.2 < (List.length (fillW (vatL vl) b0 (0:Int) ((1:Int) + ((10:Int) * b1)))))∧∀ (y408:Int),y408=(gD (fillW (vatL vl) b0 (0:Int) ((1:Int) + ((10:Int) * b1))) e19.2.2.2.2.2.2.2.2 0)→(0 ≤ y408)∧(y408 < (List.length (vatL vl)))∧∀ (y409:Int),y409=(gD (vatL vl) y408 (0,((0,0),0))).1→∀ (y410:Int),y410=(gD (vatL vl) y408 (0,((0,0),0))).2.1.1→∀ (y411:Int),y411=(gD (vatL vl) y408 (0,((0,0),0))).2.1.2→∀ (y412:Int),y412=(gD (vatL vl) y408 (0,((0,0),0))).2.2→(0 ≤ d19)∧(d19 < (List.length (fillW (vatL vl) b0 (0:Int) ((1:Int) + ((10:Int) * b1)))))∧∀ (y413:Int),y413=(gD (fillW (vatL vl) b0 (0:Int) ((1:Int) + ((10:Int) * b1))) d19 0)→(0 ≤ y413)∧(y413 < (List.length (vatL vl)))∧∀ (y414:Int),y414=(gD (vatL vl) y413 (0,((0,0),0))).1→∀ (y415:Int),y415=(gD (vatL vl) y413 (0,((0,0),0))).2.1.1→∀ (y416:Int),y416=(gD (vatL vl) y413 (0,((0,0),0))).2.1.2→∀ (y417:Int),y417=(gD (vatL vl) y413 (0,((0,0),0))).2.2→(0 ≤ y410∧y410 ≤ 1000∧0 ≤ y411∧y411 ≤ 1000∧0 ≤ y415∧y415 ≤ 1000∧0 ≤ y416∧y416 ≤ 1000)∧(I64 b0)∧∀ (y418:Bool),y418=(decide ((farV (y409,(y410,y411),y412) (y414,(y415,y416),y417)) > b0))→(y418=false→0 ≤ d19)∧(y418=false→d19 < (List.length (fillW (vatL vl) b0 (0:Int) ((1:Int) + ((10:Int) * b1)))))∧∀ (y419:Int),y419=(gD (fillW (vatL vl) b0 (0:Int) ((1:Int) + ((10:Int) * b1))) d19 0)→(y418=false→0 ≤ y419)∧(y418=false→y419 < (List.length (vatL vl)))∧∀ (y420:Int),y420=(gD (vatL vl) y419 (0,((0,0),0))).1→∀ (y421:Bool),y421=(y420 != (0:Int))→∀ (y422:Bool),y422=(y418 || y421)→(y422=true →
          (false=true∧(True))) ∧
         (y422=false →
          (I64 (d19 + (1:Int)))∧(∃ d20:Int,((True∧True∧True∧e19.2.1=e19.2.1∧e19.2.2.1=e19.2.2.1∧True∧e19.2.2.2.2.2.1=e19.2.2.2.2.2.1∧e19.2.2.2.2.2.2.1=e19.2.2.2.2.2.2.1∧True∧True∧e19.2.2.2.2.2.2.2.1=e19.2.2.2.2.2.2.2.1∧e19.2.2.2.2.2.2.2.2=e19.2.2.2.2.2.2.2.2∧(d19 + (1:Int))=d20∧True)∧((b0=b0∧b1=b1∧(([]:List SV)=[]))∧((vatL vl)=(vatL vl)∧false=false)∧(e19.1=e19.1∧false=false)∧(e19.2.2.2.1=e19.2.2.2.1∧e19.2.2.2.2.1=e19.2.2.2.2.1∧(([]:List SV)=[]))∧((0:Int)=(0:Int)∧((1:Int) + ((10:Int) * b1))=((1:Int) + ((10:Int) * b1))∧(([]:List SV)=[]))∧((fillW (vatL vl) b0 (0:Int) ((1:Int) + ((10:Int) * b1)))=(fillW (vatL vl) b0 (0:Int) ((1:Int) + ((10:Int) * b1)))∧(List.isEmpty (fillW (vatL vl) b0 (0:Int) ((1:Int) + ((10:Int) * b1))))=(List.isEmpty (fillW (vatL vl) b0 (0:Int) ((1:Int) + ((10:Int) * b1)))))∧True))∧q19 d20))) ∧
        (y407=false →
         (0 ≤ e19.2.2.2.2.2.2.2.2)∧(e19.2.2.2.2.2.2.2.2 < (List.length (fillW (vatL vl) b0 (0:Int) ((1:Int) + ((10:Int) * b1)))))∧∀ (y423:Int),y423=(gD (fillW (vatL vl) b0 (0:Int) ((1:Int) + ((10:Int) * b1))) e19.2.2.2.2.2.2.2.2 0)→(0 ≤ y423)∧(y423 < (List.length (vatL vl)))∧∀ (y424:Int),y424=(gD (vatL vl) y423 (0,((0,0),0))).2.2→(I64 (e19.2.2.2.2.2.2.2.1 + y424))∧(I64 (e19.2.2.2.2.2.2.2.2 + (1:Int)))∧(∃ d21:Int × Int,((True∧True∧True∧e19.2.1=e16.2.1∧e19.2.2.1=e16.2.2.1∧True∧e19.2.2.2.2.2.1=e16.2.2.2.2.2.1∧e19.2.2.2.2.2.2.1=e16.2.2.2.2.2.2∧True∧True∧(e19.2.2.2.2.2.2.2.1 + y424)=d21.1∧(e19.2.2.2.2.2.2.2.2 + (1:Int))=d21.2∧True)∧((b0=b0∧b1=b1∧(([]:List SV)=[]))∧((vatL vl)=(vatL vl)∧false=false)∧(e19.1=e16.1∧false=false)∧(e19.2.2.2.1=e16.2.2.2.1∧e19.2.2.2.2.1=e16.2.2.2.2.1∧(([]:List SV)=[]))∧((0:Int)=(0:Int)∧((1:Int) + ((10:Int) * b1))=((1:Int) + ((10:Int) * b1))∧(([]:List SV)=[]))∧((fillW (vatL vl) b0 (0:Int) ((1:Int) + ((10:Int) * b1)))=(fillW (vatL vl) b0 (0:Int) ((1:Int) + ((10:Int) * b1)))∧(List.isEmpty (fillW (vatL vl) b0 (0:Int) ((1:Int) + ((10:Int) * b1))))=(List.isEmpty (fillW (vatL vl) b0 (0:Int) ((1:Int) + ((10:Int) * b1)))))∧True))∧q16 d21))) d190)) ∧
     (y363=false →
      ∀ (y425:Bool),y425=(decide (d16.1 < ((1:Int) + ((10:Int) * b1))))→∀ (y426:Bool),y426=(decide (e16.2.2.2.2.2.1 ≥ ((1:Int) + ((10:Int) * b1))))→∀ (y427:Bool),y427=(e16.2.2.2.2.2.2 && y426)→∀ (y428:Bool),y428=(decide ((lI e16.1) > (0:Int)))→∀ (y429:Bool),y429=(y427 && y428)→∀ (y430:Bool),y430=(decide ((lI e16.1) < (lI (fillW (vatL vl) b0 (0:Int) ((1:Int) + ((10:Int) * b1))))))→∀ (y431:Bool),y431=(y429 && y430)→∀ (y432:Bool),y432=(y425 || y431)→(y432=true →
       (false=true∧(True))) ∧
      (y432=false →
       ((vatL vl).length ≤ 1000)∧(e16.1.length ≤ 1000)∧((vatL vl).length ≤ 1000∧e16.1.length ≤ 1000)∧∀ (y433:Bool),y433=((lI e16.1) == (0:Int))→(y433=true →
        ∀ (y434:Bool),y434=((spreadErr (vatL vl) e16.1) == (7:Int))→(y434=true→True)∧∀ (y435:Bool),y435=(y434 && true)→(y435=true∧(True))) ∧
       (y433=false →
        ∀ (y436:Bool),y436=((spreadErr (vatL vl) e16.1) == (0:Int))→(y436=true→InK .i64 (e16.2.2.2.2.1 - e16.2.2.2.1))∧∀ (y437:Bool),y437=(((spreadSp (vatL vl) e16.1).2) == (e16.2.2.2.2.1 - e16.2.2.2.1))→∀ (y438:Bool),y438=(y436 && y437)→∀ (y439:Bool),y439=(decide (((spreadSp (vatL vl) e16.1).1) ≥ (0:Int)))→∀ (y440:Bool),y440=(y438 && y439)→∀ (y441:Bool),y441=(decide (((spreadSp (vatL vl) e16.1).1) ≤ ((spreadSp (vatL vl) e16.1).2)))→∀ (y442:Bool),y442=(y440 && y441)→(y442=true→InK .i64 (e16.2.2.1 - e16.2.1))∧∀ (y443:Bool),y443=(decide ((e16.2.2.1 - e16.2.1) ≤ ((spreadSp (vatL vl) e16.1).2)))→∀ (y444:Bool),y444=(y442 && y443)→(y444=true→True)∧∀ (y445:Bool),y445=(y444 && true)→(y445=true∧(True)))))) d160) ∧
   (y238=false →
    ∀ (y446:Bool),y446=((fillErr (vatL vl) b0 (0:Int) ((1:Int) + ((10:Int) * b1))) != (7:Int))→∀ (y447:Bool),y447=((lI (fillW (vatL vl) b0 (0:Int) ((1:Int) + ((10:Int) * b1)))) != (0:Int))→∀ (y448:Bool),y448=(y446 || y447)→∀ (y449:Bool),y449=(decide (d3.2.2.2.2.2.1 ≥ ((1:Int) + ((10:Int) * b1))))→∀ (y450:Bool),y450=(d3.2.2.2.2.2.2.1 && y449)→∀ (y451:Bool),y451=(decide ((lI d3.1) > (0:Int)))→∀ (y452:Bool),y452=(y450 && y451)→∀ (y453:Bool),y453=(y448 || y452)→(y453=true →
     (false=true∧(True))) ∧
    (y453=false →
     ((vatL vl).length ≤ 1000)∧(d3.1.length ≤ 1000)∧((vatL vl).length ≤ 1000∧d3.1.length ≤ 1000)∧∀ (y454:Bool),y454=((lI d3.1) == (0:Int))→(y454=true →
      ∀ (y455:Bool),y455=((spreadErr (vatL vl) d3.1) == (7:Int))→(y455=true→True)∧∀ (y456:Bool),y456=(y455 && true)→(y456=true∧(True))) ∧
     (y454=false →
      ∀ (y457:Bool),y457=((spreadErr (vatL vl) d3.1) == (0:Int))→(y457=true→InK .i64 (d3.2.2.2.2.1 - d3.2.2.2.1))∧∀ (y458:Bool),y458=(((spreadSp (vatL vl) d3.1).2) == (d3.2.2.2.2.1 - d3.2.2.2.1))→∀ (y459:Bool),y459=(y457 && y458)→∀ (y460:Bool),y460=(decide (((spreadSp (vatL vl) d3.1).1) ≥ (0:Int)))→∀ (y461:Bool),y461=(y459 && y460)→∀ (y462:Bool),y462=(decide (((spreadSp (vatL vl) d3.1).1) ≤ ((spreadSp (vatL vl) d3.1).2)))→∀ (y463:Bool),y463=(y461 && y462)→(y463=true→InK .i64 (d3.2.2.1 - d3.2.1))∧∀ (y464:Bool),y464=(decide ((d3.2.2.1 - d3.2.1) ≤ ((spreadSp (vatL vl) d3.1).2)))→∀ (y465:Bool),y465=(y463 && y464)→(y465=true→True)∧∀ (y466:Bool),y466=(y465 && true)→(y466=true∧(True))))))) d30
def cx_law09_ShadeThreads:Cx:=⟨[(3,(.i .i64))],[(36,s_law09_Vat_lots),(38,s_law09_Vat_thread),(37,s_law09_far),(14,s_law09_own),(24,s_shade_Fill),(40,s_law09_ints),(39,s_shade_Spread),(13,s_law09_known)],337,[],0,[],[],[],[],true,[],[],[]⟩
def lp_law09_ShadeThreads (vl:List (Int × Int × Int × Int)) (vt:List Int) (so:Int) (b0:Int) (b1:Int):List (Nat × LoopAnn):=[(0,⟨Unit,(List Int) × Int × Int × Int × Int × Int × Bool × Int,[1,3,5,7,8,9,10,11,12,13,14],fun e x=>[.val (.i .u16) so,.box 3 0,.box 5 0,.lst 27,.lst 28,.val (.i .i64) x.2.1,.val (.i .i64) x.2.2.1,.box 11 0,.val (.i .i64) x.2.2.2.2.2.1,.val .bo x.2.2.2.2.2.2.1,.val (.i .i64) x.2.2.2.2.2.2.2],fun e x=>[(3,.slot 3,.cells [.val (.list (.pair (.i .u8) (.pair (.i .u8) (.pair (.i .u8) (.i .u8))))) vl,.val (.list (.i .u8)) vt] (some 74)),(5,.slot 5,.cells [.val (.i .u8) b0,.val (.i .u8) b1] (some 84)),(27,.slot 7,.lst 78 (.pair (.i .i64) (.pair (.pair (.i .i64) (.i .i64)) (.i .i64))) (vatL vl) false),(28,.slot 8,.lst 3 (.i .i64) x.1 false),(11,.slot 11,.cells [.val (.i .i64) x.2.2.2.1,.val (.i .i64) x.2.2.2.2.1] (some 85))]⟩),
 (2,⟨(List Int) × Int × Int × Int × Bool × Int,Int × Int × Int,[1,3,5,7,8,9,10,11,12,13,14,15],fun e x=>[.val (.i .u16) so,.box 3 0,.box 5 0,.lst 27,.lst 28,.val (.i .i64) x.1,.val (.i .i64) x.2.1,.box 11 0,.val (.i .i64) e.2.2.2.1,.val .bo e.2.2.2.2.1,.val (.i .i64) e.2.2.2.2.2,.val (.i .i64) x.2.2],fun e x=>[(3,.slot 3,.cells [.val (.list (.pair (.i .u8) (.pair (.i .u8) (.pair (.i .u8) (.i .u8))))) vl,.val (.list (.i .u8)) vt] (some 74)),(5,.slot 5,.cells [.val (.i .u8) b0,.val (.i .u8) b1] (some 84)),(27,.slot 7,.lst 78 (.pair (.i .i64) (.pair (.pair (.i .i64) (.i .i64)) (.i .i64))) (vatL vl) false),(28,.slot 8,.lst 3 (.i .i64) e.1 false),(11,.slot 11,.cells [.val (.i .i64) e.2.1,.val (.i .i64) e.2.2.1] (some 85))]⟩),
 (4,⟨(List Int) × Int × Int × Int × Int × Int × Int,Bool × Int,[1,3,5,7,8,9,10,11,12,13,14,17],fun e x=>[.val (.i .u16) so,.box 3 0,.box 5 0,.lst 27,.lst 28,.val (.i .i64) e.2.1,.val (.i .i64) e.2.2.1,.box 11 0,.val (.i .i64) e.2.2.2.2.2.1,.val .bo x.1,.val (.i .i64) e.2.2.2.2.2.2,.val (.i .i64) x.2],fun e x=>[(3,.slot 3,.cells [.val (.list (.pair (.i .u8) (.pair (.i .u8) (.pair (.i .u8) (.i .u8))))) vl,.val (.list (.i .u8)) vt] (some 74)),(5,.slot 5,.cells [.val (.i .u8) b0,.val (.i .u8) b1] (some 84)),(27,.slot 7,.lst 78 (.pair (.i .i64) (.pair (.pair (.i .i64) (.i .i64)) (.i .i64))) (vatL vl) false),(28,.slot 8,.lst 3 (.i .i64) e.1 false),(11,.slot 11,.cells [.val (.i .i64) e.2.2.2.1,.val (.i .i64) e.2.2.2.2.1] (some 85))]⟩),
 (6,⟨(List Int) × Int × Int × Int × Int × Int × Bool,Int × Int,[5,7,8,9,10,11,12,13,18,19,21,22],fun e x=>[.box 5 0,.lst 27,.lst 28,.val (.i .i64) e.2.1,.val (.i .i64) e.2.2.1,.box 11 0,.val (.i .i64) e.2.2.2.2.2.1,.val .bo e.2.2.2.2.2.2,.box 18 0,.lst 154,.val (.i .i64) x.1,.val (.i .i64) x.2],fun e x=>[(5,.slot 5,.cells [.val (.i .u8) b0,.val (.i .u8) b1] (some 84)),(27,.slot 7,.lst 78 (.pair (.i .i64) (.pair (.pair (.i .i64) (.i .i64)) (.i .i64))) (vatL vl) false),(28,.slot 8,.lst 3 (.i .i64) e.1 false),(11,.slot 11,.cells [.val (.i .i64) e.2.2.2.1,.val (.i .i64) e.2.2.2.2.1] (some 85)),(18,.slot 18,.cells [.val (.i .i64) (0:Int),.val (.i .i64) ((1:Int) + ((10:Int) * b1))] (some 41)),(154,.slot 19,.lst 3 (.i .i64) (fillW (vatL vl) b0 (0:Int) ((1:Int) + ((10:Int) * b1))) (List.isEmpty (fillW (vatL vl) b0 (0:Int) ((1:Int) + ((10:Int) * b1)))))]⟩),
 (8,⟨(List Int) × Int × Int × Int × Int × Int × Bool × Int × Int,Int,[5,7,8,9,10,11,12,13,18,19,21,22,23],fun e x=>[.box 5 0,.lst 27,.lst 28,.val (.i .i64) e.2.1,.val (.i .i64) e.2.2.1,.box 11 0,.val (.i .i64) e.2.2.2.2.2.1,.val .bo e.2.2.2.2.2.2.1,.box 18 0,.lst 154,.val (.i .i64) e.2.2.2.2.2.2.2.1,.val (.i .i64) e.2.2.2.2.2.2.2.2,.val (.i .i64) x],fun e x=>[(5,.slot 5,.cells [.val (.i .u8) b0,.val (.i .u8) b1] (some 84)),(27,.slot 7,.lst 78 (.pair (.i .i64) (.pair (.pair (.i .i64) (.i .i64)) (.i .i64))) (vatL vl) false),(28,.slot 8,.lst 3 (.i .i64) e.1 false),(11,.slot 11,.cells [.val (.i .i64) e.2.2.2.1,.val (.i .i64) e.2.2.2.2.1] (some 85)),(18,.slot 18,.cells [.val (.i .i64) (0:Int),.val (.i .i64) ((1:Int) + ((10:Int) * b1))] (some 41)),(154,.slot 19,.lst 3 (.i .i64) (fillW (vatL vl) b0 (0:Int) ((1:Int) + ((10:Int) * b1))) (List.isEmpty (fillW (vatL vl) b0 (0:Int) ((1:Int) + ((10:Int) * b1)))))]⟩)]
set_option maxRecDepth 100000 in
theorem vq_law09_ShadeThreads (d:((List (Int × Int × Int × Int)) × List Int) × Int × Int × Int):gwp (cx_law09_ShadeThreads) (lp_law09_ShadeThreads d.1.1 d.1.2 d.2.1 d.2.2.1 d.2.2.2) c8 0 (gend [.tmp 6] (res_law09_ShadeThreads d) (obs_law09_ShadeThreads d)) (gstart 337 (AL.can al_law09_ShadeThreads d))=vc_law09_ShadeThreads d.1.1 d.1.2 d.2.1 d.2.2.1 d.2.2.2:=by kernel_rfl
abbrev Ok_law09_ShadeThreads:Prop:=OkC Tryz.prog 8 s_law09_ShadeThreads
theorem mk_law09_ShadeThreads (h:∀ (vl:List (Int × Int × Int × Int)) (vt:List Int) (so:Int) (b0:Int) (b1:Int),(vatOk vl vt∧0 ≤ so∧so ≤ 65535∧0 ≤ b0∧b0 ≤ 255∧0 ≤ b1∧b1 ≤ 255)→vc_law09_ShadeThreads vl vt so b0 b1):OkC Tryz.prog 8 s_law09_ShadeThreads :=
 okC_vc fun8 mixed (C:=cx_law09_ShadeThreads) (V:=fun (d:((List (Int × Int × Int × Int)) × List Int) × Int × Int × Int)=>vc_law09_ShadeThreads d.1.1 d.1.2 d.2.1 d.2.2.1 d.2.2.2) ⟨(.cons ok_law09_Vat_lots (.cons ok_law09_Vat_thread (.cons ok_law09_far (.cons ok_law09_own (.cons ok_shade_Fill (.cons ok_law09_ints (.cons ok_shade_Spread (.cons ok_law09_known .nil)))))))),XsOk.nil,ItsOk.nil,YlOk.nil,IysOk.nil⟩ (vq_law09_ShadeThreads) fun d hp=>h d.1.1 d.1.2 d.2.1 d.2.2.1 d.2.2.2 hp
end Go.Proofs.Tryz
set_option linter.unusedVariables false
namespace Go.Proofs.Tryz
open Go Go.V Go.Proofs
theorem ok_law09_ShadeThreads:Ok_law09_ShadeThreads:=mk_law09_ShadeThreads fun vl vt so b0 b1 h=>by
 obtain ⟨hv,h1,h2,h3,h4,h5,h6⟩:=h
 obtain ⟨v1,v2,v3,v4⟩:=id hv
 obtain ⟨l1,l2,l3⟩:=vatL_ok v3
 unfold vc_law09_ShadeThreads; (try delta lI gD sT I64)
 obtain ⟨n,rfl⟩:=Int.eq_ofNat_of_zero_le h1
 simp only [forall_eq]
 generalize vatL vl=L at *
 refine ⟨hv,(),([],1048576,0,1048576,0,0,true,0),(by and_intros <;> first | rfl | trivial | simp),?_⟩
 refine ⟨fun d=>∃ k:Nat,d.2.2.2.2.2.2.2=k∧k ≤ L.length∧ThrI L n b0 k d.1 d.2.1 d.2.2.1 d.2.2.2.1 d.2.2.2.2.1 d.2.2.2.2.2.1 d.2.2.2.2.2.2.1,fun d=>L.length - d.2.2.2.2.2.2.2.toNat,⟨0,rfl,by omega,thrI_zero L n b0⟩,?_⟩
 rintro ⟨pick,low,high,e0,e1,sum,al,_⟩ ⟨k,rfl,k1,I⟩
 dsimp only at I ⊢
 have hd:∀ j,L.getD j (0,((0,0),0))=L.getD j lotD:=fun _=>rfl
 simp only [Int.toNat_natCast,hd]
 have hpk:pick.length ≤ 9:=by rw [I.pk]; have:=chosenK_len n k; omega
 have hlot:∀ j:Int,0 ≤ j→j < L.length→0 ≤ (L.getD j.toNat lotD).2.1.1∧(L.getD j.toNat lotD).2.1.1 ≤ (L.getD j.toNat lotD).2.1.2∧(L.getD j.toNat lotD).2.1.2 ≤ 1000∧0 ≤ (L.getD j.toNat lotD).2.2∧(L.getD j.toNat lotD).2.2 ≤ 1000000:=fun j j0 j1=>by
  have hj:j.toNat < L.length:=by omega
  have:=lotOk_iff.1 (l2 _ (List.getElem_mem hj))
  rw [getD_nat hj]; omega
 have hlA:∀ j:Nat,L.getD j lotD=lotAt L (j:Int):=fun j=>by unfold lotAt; rw [Int.toNat_natCast]
 have hlB:∀ j:Int,L.getD j.toNat lotD=lotAt L j:=fun j=>rfl
 simp only [hlB] at hlot
 refine ⟨fun hc=>?_,fun hc=>?_⟩
 ·have hc:=of_decide_eq_true hc
  have hkL:k < L.length:=by omega
  have hlk:=hlot k (by omega) hc
  rw [shr_bit16 (by omega) (by omega)]
  refine ⟨by rw [InK_u64]; omega,by omega,fun a=>?_,fun a=>?_⟩
  ·exact ⟨by rw [InK_i64]; omega,(pick,low,high,e0,e1,sum,al,(k:Int) + 1),(by and_intros <;> first | rfl | trivial | simp),⟨k + 1,rfl,by omega,thrI_skip I (by simpa using a)⟩,by show L.length - ((k:Int) + 1).toNat < L.length - k; omega⟩
  ·have hb:n.testBit k=true:=by simpa using a
   have b0':=I.b0
   have b1':=I.b1
   have b2':=I.b2
   have b3':=I.b3
   have b4':=I.b4
   have b5':=I.b5
   have s0':=I.s0
   have s1':=I.s1
   refine ⟨(pick,e0,e1,sum,al,(k:Int)),(low,high,0),(by and_intros <;> first | rfl | trivial | simp),?_⟩
   refine ⟨fun d=>∃ j:Nat,d.2.2=j∧j ≤ 2∧gmin e0 (lotAt L k).2.1.1 ≤ d.1∧d.2.1 ≤ gmax e1 (lotAt L k).2.1.2∧d.1 ≤ 1048576∧0 ≤ d.2.1,fun d=>2 - d.2.2.toNat,⟨0,rfl,by omega,by rw [gmin_eq]; dsimp only; omega,by rw [gmax_eq]; dsimp only; omega,by omega,by omega⟩,?_⟩
   rintro ⟨lw,hg,_⟩ ⟨j,rfl,j1,j2,j3,j4,j5⟩
   dsimp only at j2 j3 j4 j5 ⊢
   simp only [hlB]
   refine ⟨fun hc2=>?_,fun hc2=>?_⟩
   ·have hc2:=of_decide_eq_true hc2
    have ht:=thrV_in (x:=lotAt L k) (i:=2 * (k:Int) + j) v4 (by omega) (by omega)
    refine ⟨by omega,by omega,by rw [InK_i64]; omega,by rw [InK_i64]; omega,⟨hv,by omega,by omega,by omega,by omega⟩,by rw [InK_i64]; omega,(gmin lw (thrV vt (lotAt L k) (2 * (k:Int) + j)),gmax hg (thrV vt (lotAt L k) (2 * (k:Int) + j)),(j:Int) + 1),(by and_intros <;> first | rfl | trivial | simp),⟨j + 1,rfl,by omega,?_,?_,?_,?_⟩,by show 2 - ((j:Int) + 1).toNat < 2 - j; omega⟩
    ·dsimp only; rw [gmin_eq] at j2 ⊢; rw [gmin_eq]; omega
    ·dsimp only; rw [gmax_eq] at j3 ⊢; rw [gmax_eq]; omega
    ·dsimp only; rw [gmin_eq]; omega
    ·dsimp only; rw [gmax_eq]; omega
   ·refine ⟨(pick,lw,hg,e0,e1,sum,(k:Int)),(al,0),(by and_intros <;> first | rfl | trivial | simp),?_⟩
    refine ⟨fun d=>∃ m:Nat,d.2=m∧m ≤ pick.length∧(d.1=true→al=true∧∀ j,j < m→farV (lotAt L k) (lotAt L (pick.getD j 0)) ≤ b0),fun d=>pick.length - d.2.toNat,⟨0,rfl,by omega,fun h=>⟨h,fun j hj=>by omega⟩⟩,?_⟩
    rintro ⟨al',_⟩ ⟨m,rfl,m1,m2⟩
    dsimp only at m2 ⊢
    simp only [Int.toNat_natCast]
    refine ⟨fun hc3=>?_,fun hc3=>?_⟩
    ·have hc3:=of_decide_eq_true hc3
     have hmp:m < pick.length:=by omega
     have hpm:0 ≤ pick.getD m 0∧pick.getD m 0 < k:=by
      have:=getD_memS hmp
      rw [I.pk] at this
      have:=chosenK_mem this
      rw [←I.pk] at this
      exact this
     have hlm:=hlot (pick.getD m 0) (by omega) (by omega)
     refine ⟨fun _=>by omega,fun _=>hc,fun _=>by omega,fun _=>hc3,fun _=>by omega,fun _=>by omega,fun _=>⟨by omega,by omega,by omega,by omega,by omega,by omega,by omega,by omega⟩,fun _=>by rw [InK_i64]; omega,by rw [InK_i64]; omega,(al' && decide (farV (lotAt L k) (lotAt L (pick.getD m 0)) ≤ b0),(m:Int) + 1),(by and_intros <;> first | rfl | trivial | simp),⟨m + 1,rfl,by omega,fun h=>?_⟩,by show pick.length - ((m:Int) + 1).toNat < pick.length - m; omega⟩
     rw [Bool.and_eq_true,decide_eq_true_eq] at h
     refine ⟨(m2 h.1).1,fun j hj=>?_⟩
     rcases Nat.lt_succ_iff_lt_or_eq.1 hj with hj | rfl
     ·exact (m2 h.1).2 j hj
     ·exact h.2
    ·have hmp:m=pick.length:=by have:=of_decide_eq_false hc3; omega
     subst hmp
     refine ⟨fun _=>by omega,fun _=>hc,fun _=>by omega,fun _=>hc,fun _=>⟨by omega,by omega,by omega,by omega,by omega,by omega,by omega,by omega⟩,fun _=>by rw [InK_i64]; omega,fun _=>by omega,fun _=>hc,by omega,hc,by omega,hc,by simp only [List.length_cons,List.length_nil]; omega,by omega,hc,by rw [InK_i64]; omega,by rw [InK_i64]; omega,(pick++[(k:Int)],lw,hg,gmin e0 (lotAt L k).2.1.1,gmax e1 (lotAt L k).2.1.2,sum + (lotAt L k).2.2,(al' && decide (farV (lotAt L k) (lotAt L k) ≤ b0)) && ((lotAt L k).1 == 0),(k:Int) + 1),(by and_intros <;> first | rfl | trivial | simp),⟨k + 1,rfl,by omega,thrI_take I hkL l2 hb rfl (fun h=>?_) rfl rfl j2 j3 j4 j5⟩,by show L.length - ((k:Int) + 1).toNat < L.length - k; omega⟩
     rw [Bool.and_eq_true,Bool.and_eq_true,decide_eq_true_eq,beq_iff_eq,farV_le (by omega)] at h
     obtain ⟨⟨q1,q2⟩,q3⟩:=h
     refine ⟨(m2 q1).1,q3,q2.2.1,fun b hb2=>?_⟩
     obtain ⟨i,hi,rfl⟩:=List.getElem_of_mem hb2
     have:=(m2 q1).2 i hi
     rw [farV_le (by omega),getD_nat hi] at this
     exact this.2.1
 ·have hkL:k=L.length:=by have:=of_decide_eq_false hc; omega
  subst hkL
  have hpk2:=I.pk
  subst hpk2
  have hng:needOk 0 (1 + 10 * b1)=true:=by
   simp only [needOk,inI,Bool.and_eq_true,decide_eq_true_eq]; omega
  have hO:openErr L b0=0:=by
   unfold openErr
   have:lotsErr L=0:=by
    unfold lotsErr
    rw [if_neg (by omega),if_neg]
    rw [List.any_eq_true]
    rintro ⟨x,hx,h9⟩
    rw [l2 x hx] at h9; cases h9
   rw [if_neg (by omega),if_neg]
   simp only [inI,Bool.not_eq_true',Bool.and_eq_false_iff,decide_eq_false_iff_not]
   omega
  obtain ⟨c1,e1',e2'⟩:needOk 0 (1 + 10 * b1)=true∧fillErr L b0 0 (1 + 10 * b1)=(if (fillK L b0 0 (1 + 10 * b1) (2 ^ L.length)).isEmpty then 7 else 0)∧fillW L b0 0 (1 + 10 * b1)=fillK L b0 0 (1 + 10 * b1) (2 ^ L.length):=by
   rcases fill_cases L b0 0 (1 + 10 * b1) with ⟨c,_⟩ | ⟨_,c,_⟩ | ⟨_,c⟩
   ·exact (c hO).elim
   ·rw [c] at hng; cases hng
   ·exact c
  rw [e1',e2']
  have hF:=fill_facts (L:=L) (t:=b0) (nc:=0) (ng:=1 + 10 * b1) (by omega)
  have hM:al=true→1 + 10 * b1 ≤ sum→chosenK n L.length ≠ []→fillK L b0 0 (1 + 10 * b1) (2 ^ L.length) ≠ []∧(fillK L b0 0 (1 + 10 * b1) (2 ^ L.length)).length ≤ (chosenK n L.length).length:=fun ha hs hp=>by
   subst ha
   exact thr_fill I (by omega) hs hp
  have hF1:=fillK_len (tl:=b0) (nc:=0) (ng:=1 + 10 * b1) (show L.length ≤ 64 by omega) (2 ^ L.length) (Nat.le_refl _)
  obtain ⟨sp0,sp1⟩:=thr_spread I (by omega) l2
  have b0':=I.b0
  have b1':=I.b1
  have b2':=I.b2
  have b3':=I.b3
  have b4':=I.b4
  have b5':=I.b5
  have s0':=I.s0
  have s1':=I.s1
  generalize fillK L b0 0 (1 + 10 * b1) (2 ^ L.length)=F at *
  refine ⟨by rw [InK_i64]; omega,by rw [InK_i64]; omega,by rw [InK_i64]; omega,by omega,(fun h=>by cases h),by rw [InK_i64]; omega,by omega,fun hx=>?_,fun hx=>?_⟩
  ·have hFn:F ≠ []:=by
    rintro rfl
    cases hx
   obtain ⟨f1,f2,f3,f4⟩:=hF hFn
   refine ⟨(chosenK n L.length,low,high,e0,e1,sum,al),(0,0),(by and_intros <;> first | rfl | trivial | simp),?_⟩
   refine ⟨fun d=>∃ i:Nat,d.2=i∧i ≤ F.length∧d.1=gramsL L (F.take i)∧0 ≤ d.1∧d.1 ≤ 1000000 * (i:Int),fun d=>F.length - d.2.toNat,⟨0,rfl,by omega,rfl,by omega,by omega⟩,?_⟩
   rintro ⟨have_,_⟩ ⟨i,rfl,i1,rfl,i2,i3⟩
   dsimp only at i2 i3 ⊢
   simp only [Int.toNat_natCast,hlB]
   refine ⟨fun hc4=>?_,fun hc4=>?_⟩
   ·have hc4:=of_decide_eq_true hc4
    have hiF:i < F.length:=by omega
    have m1:=getD_memS hiF
    have m2:=f1 _ m1
    have hli:=hlot _ m2.1 m2.2
    have hdec:(decide (F.getD i 0 < 0) || decide (F.getD i 0 ≥ (L.length:Int)))=false:=by
     rw [Bool.or_eq_false_iff,decide_eq_false_iff_not,decide_eq_false_iff_not]; omega
    have hdec2:(decide ((i:Int) > 0) && decide (F.getD i 0 ≤ F.getD ((i:Int) - 1).toNat 0))=false:=by
     rw [Bool.and_eq_false_iff,decide_eq_false_iff_not,decide_eq_false_iff_not]
     by_cases h0:0 < i
     ·right
      have:=List.pairwise_iff_getElem.1 f2 (i - 1) i (by omega) hiF (by omega)
      rw [show ((i:Int) - 1).toNat=i - 1 by omega,getD_nat (show i - 1 < F.length by omega),getD_nat hiF]; omega
     ·left; omega
    rw [hdec,hdec2]
    refine ⟨by omega,hc4,fun _=>by omega,fun _=>hc4,fun _ _=>by omega,fun _ _=>hc4,fun _ _=>by rw [InK_i64]; omega,fun _ h=>by have:=of_decide_eq_true h; omega,fun _ _=>by omega,(fun h=>by cases h),fun _=>⟨(chosenK n L.length,low,high,e0,e1,sum,al,gramsL L (F.take i),(i:Int)),0,(by and_intros <;> first | rfl | trivial | simp),?_⟩⟩
    refine LoopP.count (i + 1) (fun _=>True) trivial fun m hm _ q hq=>?_
    simp only [Int.toNat_natCast]
    refine ⟨fun hc5=>?_,fun hc5=>?_⟩
    ·have hc5:=of_decide_eq_true hc5
     have hmF:m < F.length:=by omega
     have n1:=getD_memS hmF
     have n2:=f1 _ n1
     have hlm:=hlot _ n2.1 n2.2
     have hfar:farV (lotAt L (F.getD i 0)) (lotAt L (F.getD m 0)) ≤ b0:=by
      rw [farV_le (by omega)]
      exact ⟨((f3 _ m1).1.trans (f3 _ n1).1.symm),(f3 _ m1).2 _ n1,(f3 _ m1).2 _ m1,(f3 _ n1).2 _ n1⟩
     have hd1:decide (farV (lotAt L (F.getD i 0)) (lotAt L (F.getD m 0)) > b0)=false:=by rw [decide_eq_false_iff_not]; omega
     have hd2:((lotAt L (F.getD m 0)).1 != 0)=false:=by rw [(f3 _ n1).1]; rfl
     refine ⟨by omega,hc4,by omega,by omega,by omega,by omega,by omega,by omega,⟨by omega,by omega,by omega,by omega,by omega,by omega,by omega,by omega⟩,by rw [InK_i64]; omega,fun _=>by omega,fun _=>by omega,fun _=>by omega,fun _=>by omega,fun h=>?_,fun _=>⟨by rw [InK_i64]; omega,_,(by and_intros <;> first | rfl | trivial | simp),hq (by omega) trivial⟩⟩
     have h:(decide (farV (lotAt L (F.getD i 0)) (lotAt L (F.getD m 0)) > b0) || ((lotAt L (F.getD m 0)).1 != 0))=true:=h
     rw [hd1,hd2] at h; cases h
    ·have hs:=grams_snoc (l:=L) hiF
     rw [hlB] at hs
     exact ⟨by omega,hc4,by omega,by omega,by rw [InK_i64]; omega,by rw [InK_i64]; omega,(gramsL L (F.take i) + (lotAt L (F.getD i 0)).2.2,(i:Int) + 1),(by and_intros <;> first | rfl | trivial | simp),⟨i + 1,rfl,by omega,hs.symm,by dsimp only; omega,by dsimp only; omega⟩,by show F.length - ((i:Int) + 1).toNat < F.length - i; omega⟩
   ·have hiF:i=F.length:=by have:=of_decide_eq_false hc4; omega
    subst hiF
    rw [List.take_length] at *
    have hq1:decide (gramsL L F < 1 + 10 * b1)=false:=by rw [decide_eq_false_iff_not]; omega
    have hq2:(((al && decide (sum ≥ 1 + 10 * b1)) && decide (((chosenK n L.length).length:Int) > 0)) && decide (((chosenK n L.length).length:Int) < (F.length:Int)))=false:=by
     rw [←Bool.not_eq_true]
     intro h9
     simp only [Bool.and_eq_true,decide_eq_true_eq] at h9
     obtain ⟨⟨⟨p1,p2⟩,p3⟩,p4⟩:=h9
     have:=(hM p1 (by omega) (by intro e; rw [e] at p3; simp at p3)).2
     omega
    rw [hq1,hq2]
    refine ⟨(fun h=>by cases h),fun _=>?_⟩
    refine ⟨by omega,by omega,⟨by omega,by omega⟩,fun hp=>?_,fun hp=>?_⟩
    ·have hp:chosenK n L.length=[]:=List.length_eq_zero_iff.1 (by have:=eq_of_beq hp; omega)
     rw [sp0 hp]
     exact ⟨fun _=>trivial,rfl,trivial⟩
    ·have hp:chosenK n L.length ≠ []:=by
      intro h9; rw [h9] at hp; cases hp
     obtain ⟨g1,g2,g3,g4⟩:=sp1 hp
     have t2:((spreadSp L (chosenK n L.length)).2 == e1 - e0)=true:=by rw [g2]; exact beq_self_eq_true _
     have t3:decide ((spreadSp L (chosenK n L.length)).1 ≥ 0)=true:=decide_eq_true g3
     have t4:decide ((spreadSp L (chosenK n L.length)).1 ≤ (spreadSp L (chosenK n L.length)).2)=true:=decide_eq_true g4
     have t5:decide (high - low ≤ (spreadSp L (chosenK n L.length)).2)=true:=decide_eq_true (by omega)
     rw [g1,t2,t3,t4,t5]
     exact ⟨fun _=>by rw [InK_i64]; omega,fun _=>by rw [InK_i64]; omega,fun _=>trivial,rfl,trivial⟩
  ·have hFn:F=[]:=by
    cases F with
    | nil=>rfl
    | cons a b=>cases hx
   subst hFn
   have hq2:((al && decide (sum ≥ 1 + 10 * b1)) && decide (((chosenK n L.length).length:Int) > 0))=false:=by
    rw [←Bool.not_eq_true]
    intro h9
    simp only [Bool.and_eq_true,decide_eq_true_eq] at h9
    obtain ⟨⟨p1,p2⟩,p3⟩:=h9
    exact (hM p1 (by omega) (by intro e; rw [e] at p3; simp at p3)).1 rfl
   rw [hq2]
   refine ⟨(fun h=>by cases h),fun _=>?_⟩
   refine ⟨by omega,by omega,⟨by omega,by omega⟩,fun hp=>?_,fun hp=>?_⟩
   ·have hp:chosenK n L.length=[]:=List.length_eq_zero_iff.1 (by have:=eq_of_beq hp; omega)
    rw [sp0 hp]
    exact ⟨fun _=>trivial,rfl,trivial⟩
   ·have hp:chosenK n L.length ≠ []:=by
     intro h9; rw [h9] at hp; cases hp
    obtain ⟨g1,g2,g3,g4⟩:=sp1 hp
    have t2:((spreadSp L (chosenK n L.length)).2 == e1 - e0)=true:=by rw [g2]; exact beq_self_eq_true _
    have t3:decide ((spreadSp L (chosenK n L.length)).1 ≥ 0)=true:=decide_eq_true g3
    have t4:decide ((spreadSp L (chosenK n L.length)).1 ≤ (spreadSp L (chosenK n L.length)).2)=true:=decide_eq_true g4
    have t5:decide (high - low ≤ (spreadSp L (chosenK n L.length)).2)=true:=decide_eq_true (by omega)
    rw [g1,t2,t3,t4,t5]
    exact ⟨fun _=>by rw [InK_i64]; omega,fun _=>by rw [InK_i64]; omega,fun _=>trivial,rfl,trivial⟩
end Go.Proofs.Tryz
set_option linter.unusedVariables false
namespace Go.Proofs.Tryz
open Go Go.V Go.Proofs
theorem vatOk_of {x:List (Int × Int × Int × Int) × List Int} (h:KWf (.pair (.list (.pair (.i .u8) (.pair (.i .u8) (.pair (.i .u8) (.i .u8))))) (.list (.i .u8))) x):vatOk x.1 x.2:=by
 obtain ⟨h1,h2⟩:=h
 refine ⟨h1.1,h2.1,fun y hy=>?_,fun y hy=>(InK_u8 y).1 (h2.2 y hy)⟩
 obtain ⟨a,b,c,d⟩:=h1.2 y hy
 exact ⟨(InK_u8 _).1 a,(InK_u8 _).1 b,(InK_u8 _).1 c,(InK_u8 _).1 d⟩
theorem thrPre_of {x:(List (Int × Int × Int × Int) × List Int) × Int × Int × Int} (h:AWf [.pair (.list (.pair (.i .u8) (.pair (.i .u8) (.pair (.i .u8) (.i .u8))))) (.list (.i .u8)),.i .u16,.pair (.i .u8) (.i .u8)] x):vatOk x.1.1 x.1.2∧0 ≤ x.2.1∧x.2.1 ≤ 65535∧0 ≤ x.2.2.1∧x.2.2.1 ≤ 255∧0 ≤ x.2.2.2∧x.2.2.2 ≤ 255:=by
 obtain ⟨h1,h2,h3,h4⟩:=h
 have h2:=(InK_u16 x.2.1).1 h2
 have h3:=(InK_u8 x.2.2.1).1 h3
 have h4:=(InK_u8 x.2.2.2).1 h4
 exact ⟨vatOk_of h1,h2.1,h2.2,h3.1,h3.2,h4.1,h4.2⟩
end Go.Proofs.Tryz