/- A framework for walks, contracts of functions, and their proofs: part 6. -/
import Derived.Test.YtohogbdobpnkpaaGreatDoorR5
set_option linter.unusedVariables false
namespace Go.Proofs.Tryz
open Go Go.V Go.Proofs
def al_shade_isLot:AL (Int × Int × Int × Int):=(.one (.agg (.cons (.k (.i .i64)) (.cons (.k (.i .i64)) (.cons (.k (.i .i64)) (.one (.k (.i .i64))))))))
def pre_shade_isLot (d:Int × Int × Int × Int):Prop:=True
def res_shade_isLot (d:Int × Int × Int × Int):SV:=.val .bo (lotOk (d.1,(d.2.1,d.2.2.1),d.2.2.2))
def obs_shade_isLot (d:Int × Int × Int × Int):List OB:=[]
def s_shade_isLot:CSp:=mkSp al_shade_isLot pre_shade_isLot res_shade_isLot obs_shade_isLot
def vc_shade_isLot (lc:Int) (lo:Int) (hi:Int) (lg:Int):Prop :=
 ([lc].length ≤ 1000000)∧((!([lc].any fun n=>decide (n < (0:Int)) || decide ((9:Int) < n)))=true→True)∧((!([lc].any fun n=>decide (n < (0:Int)) || decide ((9:Int) < n)))=true→[lo,hi].length ≤ 1000000)∧((((!([lc].any fun n=>decide (n < (0:Int)) || decide ((9:Int) < n))) && (!([lo,hi].any fun n=>decide (n < (0:Int)) || decide ((1000:Int) < n)))) && (decide (lo ≤ hi)))=true→True)∧((((!([lc].any fun n=>decide (n < (0:Int)) || decide ((9:Int) < n))) && (!([lo,hi].any fun n=>decide (n < (0:Int)) || decide ((1000:Int) < n)))) && (decide (lo ≤ hi)))=true→[lg].length ≤ 1000000)∧(((((!([lc].any fun n=>decide (n < (0:Int)) || decide ((9:Int) < n))) && (!([lo,hi].any fun n=>decide (n < (0:Int)) || decide ((1000:Int) < n)))) && (decide (lo ≤ hi))) && (!([lg].any fun n=>decide (n < (1:Int)) || decide ((1000000:Int) < n))))=(lotOk (lc,(lo,hi),lg))∧(True))
def cx_shade_isLot:Cx:=⟨[(3,(.i .i64))],[(61,s_shade_within)],32,[],0,[],[],[],[],false,[],[],[]⟩
def lp_shade_isLot (lc:Int) (lo:Int) (hi:Int) (lg:Int):List (Nat × LoopAnn):=[]
set_option maxRecDepth 100000 in
theorem vq_shade_isLot (d:Int × Int × Int × Int):gwp (cx_shade_isLot) (lp_shade_isLot d.1 d.2.1 d.2.2.1 d.2.2.2) c92 0 (gend [.tmp 2] (res_shade_isLot d) (obs_shade_isLot d)) (gstart 32 (AL.can al_shade_isLot d))=vc_shade_isLot d.1 d.2.1 d.2.2.1 d.2.2.2:=by kernel_rfl
abbrev Ok_shade_isLot:Prop:=OkC Tryz.prog 92 s_shade_isLot
theorem mk_shade_isLot (h:∀ (lc:Int) (lo:Int) (hi:Int) (lg:Int),(True)→vc_shade_isLot lc lo hi lg):OkC Tryz.prog 92 s_shade_isLot :=
 okC_vc fun92 mixed (C:=cx_shade_isLot) (V:=fun (d:Int × Int × Int × Int)=>vc_shade_isLot d.1 d.2.1 d.2.2.1 d.2.2.2) ⟨(.cons ok_shade_within .nil),XsOk.nil,ItsOk.nil,YlOk.nil,IysOk.nil⟩ (vq_shade_isLot) fun d hp=>h d.1 d.2.1 d.2.2.1 d.2.2.2 hp
theorem ok_shade_isLot:Ok_shade_isLot:=mk_shade_isLot fun lc lo hi lg _=>by
 unfold vc_shade_isLot; (try delta lI gD sT I64)
 have e:∀ n a b:Int,(decide (n < a) || decide (b < n))=!inI n a b:=fun n a b=>(nI n a b).symm
 simp only [List.any_cons,List.any_nil,Bool.or_false,e,Bool.not_not,List.length_cons,List.length_nil,Bool.not_or]
 refine ⟨by omega,fun _=>trivial,fun _=>by omega,fun _=>trivial,fun _=>by omega,?_⟩
 and_intros <;> first | rfl | trivial
def al_shade_Check_1:AL (Int × Int × Int × Int):=(.one (.agg (.cons (.k (.i .i64)) (.cons (.k (.i .i64)) (.cons (.k (.i .i64)) (.one (.k (.i .i64))))))))
def pre_shade_Check_1 (d:Int × Int × Int × Int):Prop:=True
def res_shade_Check_1 (d:Int × Int × Int × Int):SV:=.val .bo (!lotOk (d.1,(d.2.1,d.2.2.1),d.2.2.2))
def obs_shade_Check_1 (d:Int × Int × Int × Int):List OB:=[]
def s_shade_Check_1:CSp:=mkSp al_shade_Check_1 pre_shade_Check_1 res_shade_Check_1 obs_shade_Check_1
def vc_shade_Check_1 (lc:Int) (lo:Int) (hi:Int) (lg:Int):Prop :=
 (True)∧((!(lotOk (lc,(lo,hi),lg)))=(!lotOk (lc,(lo,hi),lg))∧(True))
def cx_shade_Check_1:Cx:=⟨[],[(92,s_shade_isLot)],6,[],0,[],[],[],[],false,[],[],[]⟩
def lp_shade_Check_1 (lc:Int) (lo:Int) (hi:Int) (lg:Int):List (Nat × LoopAnn):=[]
set_option maxRecDepth 100000 in
theorem vq_shade_Check_1 (d:Int × Int × Int × Int):gwp (cx_shade_Check_1) (lp_shade_Check_1 d.1 d.2.1 d.2.2.1 d.2.2.2) c91 0 (gend [.tmp 2] (res_shade_Check_1 d) (obs_shade_Check_1 d)) (gstart 6 (AL.can al_shade_Check_1 d))=vc_shade_Check_1 d.1 d.2.1 d.2.2.1 d.2.2.2:=by kernel_rfl
abbrev Ok_shade_Check_1:Prop:=OkC Tryz.prog 91 s_shade_Check_1
theorem mk_shade_Check_1 (h:∀ (lc:Int) (lo:Int) (hi:Int) (lg:Int),(True)→vc_shade_Check_1 lc lo hi lg):OkC Tryz.prog 91 s_shade_Check_1 :=
 okC_vc fun91 mixed (C:=cx_shade_Check_1) (V:=fun (d:Int × Int × Int × Int)=>vc_shade_Check_1 d.1 d.2.1 d.2.2.1 d.2.2.2) ⟨(.cons ok_shade_isLot .nil),XsOk.nil,ItsOk.nil,YlOk.nil,IysOk.nil⟩ (vq_shade_Check_1) fun d hp=>h d.1 d.2.1 d.2.2.1 d.2.2.2 hp
theorem ok_shade_Check_1:Ok_shade_Check_1:=mk_shade_Check_1 fun lc lo hi lg _=>by
 unfold vc_shade_Check_1; (try delta lI gD sT I64)
 and_intros <;> first | rfl | trivial
def al_slices_IndexFunc_api_ShadeLot_api_ShadeLot:AL ((List (Int × (Int × Int) × Int)) × ((Int × (Int × Int) × Int→Prop) × (Int × (Int × Int) × Int→Bool))):=(.cons (.k (.list (.pair (.i .i64) (.pair (.pair (.i .i64) (.i .i64)) (.i .i64))))) (.one (.fn [(.pair (.i .i64) (.pair (.pair (.i .i64) (.i .i64)) (.i .i64)))] .bo)))
def pre_slices_IndexFunc_api_ShadeLot_api_ShadeLot (d:(List (Int × (Int × Int) × Int)) × ((Int × (Int × Int) × Int→Prop) × (Int × (Int × Int) × Int→Bool))):Prop:=d.1.length ≤ 1000000∧∀ x ∈ d.1,d.2.1 x
def res_slices_IndexFunc_api_ShadeLot_api_ShadeLot (d:(List (Int × (Int × Int) × Int)) × ((Int × (Int × Int) × Int→Prop) × (Int × (Int × Int) × Int→Bool))):SV:=.val (.i .i64) (idxG d.1 d.2.2)
def obs_slices_IndexFunc_api_ShadeLot_api_ShadeLot (d:(List (Int × (Int × Int) × Int)) × ((Int × (Int × Int) × Int→Prop) × (Int × (Int × Int) × Int→Bool))):List OB:=[]
def s_slices_IndexFunc_api_ShadeLot_api_ShadeLot:CSp:=mkSp al_slices_IndexFunc_api_ShadeLot_api_ShadeLot pre_slices_IndexFunc_api_ShadeLot_api_ShadeLot res_slices_IndexFunc_api_ShadeLot_api_ShadeLot obs_slices_IndexFunc_api_ShadeLot_api_ShadeLot
def vc_slices_IndexFunc_api_ShadeLot_api_ShadeLot (l:List (Int × (Int × Int) × Int)) (p:(Int × (Int × Int) × Int→Prop) × (Int × (Int × Int) × Int→Bool)):Prop :=
 ∃ (e2:Unit) (d20:Int),((l=l∧(SV.pf [(.pair (.i .i64) (.pair (.pair (.i .i64) (.i .i64)) (.i .i64)))] .bo p.1 p.2=SV.pf [(.pair (.i .i64) (.pair (.pair (.i .i64) (.i .i64)) (.i .i64)))] .bo p.1 p.2)∧(lI l)=(lI l)∧(0:Int)=d20∧True)∧(True)) ∧
 LoopP (fun (d2:Int) (q2:(Int)→Prop) =>
  ((decide (d2 < (lI l)))=true →
   (0 ≤ d2)∧(d2 < (List.length l))∧(p.1 ((gD l d2 (0,((0,0),0))).1,(((gD l d2 (0,((0,0),0))).2.1.1,(gD l d2 (0,((0,0),0))).2.1.2),(gD l d2 (0,((0,0),0))).2.2)))∧((p.2 ((gD l d2 (0,((0,0),0))).1,(((gD l d2 (0,((0,0),0))).2.1.1,(gD l d2 (0,((0,0),0))).2.1.2),(gD l d2 (0,((0,0),0))).2.2)))=true →
    (d2=(idxG l p.2)∧(True))) ∧
   ((p.2 ((gD l d2 (0,((0,0),0))).1,(((gD l d2 (0,((0,0),0))).2.1.1,(gD l d2 (0,((0,0),0))).2.1.2),(gD l d2 (0,((0,0),0))).2.2)))=false →
    (I64 (d2 + (1:Int)))∧(∃ d3:Int,((l=l∧(SV.pf [(.pair (.i .i64) (.pair (.pair (.i .i64) (.i .i64)) (.i .i64)))] .bo p.1 p.2=SV.pf [(.pair (.i .i64) (.pair (.pair (.i .i64) (.i .i64)) (.i .i64)))] .bo p.1 p.2)∧(lI l)=(lI l)∧(d2 + (1:Int))=d3∧True)∧(True))∧q2 d3))) ∧
  ((decide (d2 < (lI l)))=false →
   ((-1:Int)=(idxG l p.2)∧(True)))) d20
def cx_slices_IndexFunc_api_ShadeLot_api_ShadeLot:Cx:=⟨[],[],19,[],0,[],[],[],[],false,[],[],[]⟩
def lp_slices_IndexFunc_api_ShadeLot_api_ShadeLot (l:List (Int × (Int × Int) × Int)) (p:(Int × (Int × Int) × Int→Prop) × (Int × (Int × Int) × Int→Bool)):List (Nat × LoopAnn):=[(0,⟨Unit,Int,[0,1,7,8],fun e x=>[.val (.list (.pair (.i .i64) (.pair (.pair (.i .i64) (.i .i64)) (.i .i64)))) l,.pf [(.pair (.i .i64) (.pair (.pair (.i .i64) (.i .i64)) (.i .i64)))] .bo p.1 p.2,.val (.i .i64) (((List.length l):Nat):Int),.val (.i .i64) x],fun e x=>[]⟩)]
set_option maxRecDepth 100000 in
theorem vq_slices_IndexFunc_api_ShadeLot_api_ShadeLot (d:(List (Int × (Int × Int) × Int)) × ((Int × (Int × Int) × Int→Prop) × (Int × (Int × Int) × Int→Bool))):gwp (cx_slices_IndexFunc_api_ShadeLot_api_ShadeLot) (lp_slices_IndexFunc_api_ShadeLot_api_ShadeLot d.1 d.2) c104 0 (gend [.tmp 4] (res_slices_IndexFunc_api_ShadeLot_api_ShadeLot d) (obs_slices_IndexFunc_api_ShadeLot_api_ShadeLot d)) (gstart 19 (AL.can al_slices_IndexFunc_api_ShadeLot_api_ShadeLot d))=vc_slices_IndexFunc_api_ShadeLot_api_ShadeLot d.1 d.2:=by kernel_rfl
abbrev Ok_slices_IndexFunc_api_ShadeLot_api_ShadeLot:Prop:=OkC Tryz.prog 104 s_slices_IndexFunc_api_ShadeLot_api_ShadeLot
theorem mk_slices_IndexFunc_api_ShadeLot_api_ShadeLot (h:∀ (l:List (Int × (Int × Int) × Int)) (p:(Int × (Int × Int) × Int→Prop) × (Int × (Int × Int) × Int→Bool)),(l.length ≤ 1000000∧∀ x ∈ l,p.1 x)→vc_slices_IndexFunc_api_ShadeLot_api_ShadeLot l p):OkC Tryz.prog 104 s_slices_IndexFunc_api_ShadeLot_api_ShadeLot :=
 okC_vc fun104 mixed (C:=cx_slices_IndexFunc_api_ShadeLot_api_ShadeLot) (V:=fun (d:(List (Int × (Int × Int) × Int)) × ((Int × (Int × Int) × Int→Prop) × (Int × (Int × Int) × Int→Bool)))=>vc_slices_IndexFunc_api_ShadeLot_api_ShadeLot d.1 d.2) ⟨.nil,XsOk.nil,ItsOk.nil,YlOk.nil,IysOk.nil⟩ (vq_slices_IndexFunc_api_ShadeLot_api_ShadeLot) fun d hp=>h d.1 d.2 hp
theorem ok_slices_IndexFunc_api_ShadeLot_api_ShadeLot:Ok_slices_IndexFunc_api_ShadeLot_api_ShadeLot:=mk_slices_IndexFunc_api_ShadeLot_api_ShadeLot fun l p hp=>by
 unfold vc_slices_IndexFunc_api_ShadeLot_api_ShadeLot; (try delta lI gD sT I64); simp only [true_and,and_true,exists_eq_left',exists_const,decide_eq_true_eq,decide_eq_false_iff_not]
 refine LoopP.count l.length (fun k=>(l.take k).any p.2=false) (by simp) fun k hk1 hJ q hq=>?_
 simp only [Int.toNat_natCast,Int.ofNat_lt,InK_i64]
 refine ⟨fun hlt=>?_,fun hge=>?_⟩
 ·have hlt:k < l.length:=by omega
  rw [getD_nat hlt]
  refine ⟨by omega,by omega,hp.2 _ (List.getElem_mem hlt),fun hx=>?_,fun hx=>⟨by omega,hq hlt ?_⟩⟩
  ·rw [idxG_some hlt hx hJ]
  ·rw [take_succ_eq hlt,List.any_append,hJ]; simp [hx]
 ·rw [List.take_of_length_le (by omega)] at hJ
  rw [idxG_none hJ]
def al_slices_ContainsFunc_api_ShadeLot_api_ShadeLot:AL ((List (Int × (Int × Int) × Int)) × ((Int × (Int × Int) × Int→Prop) × (Int × (Int × Int) × Int→Bool))):=(.cons (.k (.list (.pair (.i .i64) (.pair (.pair (.i .i64) (.i .i64)) (.i .i64))))) (.one (.fn [(.pair (.i .i64) (.pair (.pair (.i .i64) (.i .i64)) (.i .i64)))] .bo)))
def pre_slices_ContainsFunc_api_ShadeLot_api_ShadeLot (d:(List (Int × (Int × Int) × Int)) × ((Int × (Int × Int) × Int→Prop) × (Int × (Int × Int) × Int→Bool))):Prop:=d.1.length ≤ 1000000∧∀ x ∈ d.1,d.2.1 x
def res_slices_ContainsFunc_api_ShadeLot_api_ShadeLot (d:(List (Int × (Int × Int) × Int)) × ((Int × (Int × Int) × Int→Prop) × (Int × (Int × Int) × Int→Bool))):SV:=.val .bo (d.1.any d.2.2)
def obs_slices_ContainsFunc_api_ShadeLot_api_ShadeLot (d:(List (Int × (Int × Int) × Int)) × ((Int × (Int × Int) × Int→Prop) × (Int × (Int × Int) × Int→Bool))):List OB:=[]
def s_slices_ContainsFunc_api_ShadeLot_api_ShadeLot:CSp:=mkSp al_slices_ContainsFunc_api_ShadeLot_api_ShadeLot pre_slices_ContainsFunc_api_ShadeLot_api_ShadeLot res_slices_ContainsFunc_api_ShadeLot_api_ShadeLot obs_slices_ContainsFunc_api_ShadeLot_api_ShadeLot
def vc_slices_ContainsFunc_api_ShadeLot_api_ShadeLot (l:List (Int × (Int × Int) × Int)) (p:(Int × (Int × Int) × Int→Prop) × (Int × (Int × Int) × Int→Bool)):Prop :=
 (l.length ≤ 1000000∧∀ x ∈ l,(fun (x1:Int × (Int × Int) × Int)=>p.1 (x1.1,((x1.2.1.1,x1.2.1.2),x1.2.2))) x)∧((decide ((idxG l (fun (x1:Int × (Int × Int) × Int)=>(p.2 (x1.1,((x1.2.1.1,x1.2.1.2),x1.2.2))))) ≥ (0:Int)))=(l.any p.2)∧(True))
def cx_slices_ContainsFunc_api_ShadeLot_api_ShadeLot:Cx:=⟨[],[(104,s_slices_IndexFunc_api_ShadeLot_api_ShadeLot)],9,[],0,[],[],[],[],false,[],[],[]⟩
def lp_slices_ContainsFunc_api_ShadeLot_api_ShadeLot (l:List (Int × (Int × Int) × Int)) (p:(Int × (Int × Int) × Int→Prop) × (Int × (Int × Int) × Int→Bool)):List (Nat × LoopAnn):=[]
set_option maxRecDepth 100000 in
theorem vq_slices_ContainsFunc_api_ShadeLot_api_ShadeLot (d:(List (Int × (Int × Int) × Int)) × ((Int × (Int × Int) × Int→Prop) × (Int × (Int × Int) × Int→Bool))):gwp (cx_slices_ContainsFunc_api_ShadeLot_api_ShadeLot) (lp_slices_ContainsFunc_api_ShadeLot_api_ShadeLot d.1 d.2) c90 0 (gend [.tmp 4] (res_slices_ContainsFunc_api_ShadeLot_api_ShadeLot d) (obs_slices_ContainsFunc_api_ShadeLot_api_ShadeLot d)) (gstart 9 (AL.can al_slices_ContainsFunc_api_ShadeLot_api_ShadeLot d))=vc_slices_ContainsFunc_api_ShadeLot_api_ShadeLot d.1 d.2:=by kernel_rfl
abbrev Ok_slices_ContainsFunc_api_ShadeLot_api_ShadeLot:Prop:=OkC Tryz.prog 90 s_slices_ContainsFunc_api_ShadeLot_api_ShadeLot
theorem mk_slices_ContainsFunc_api_ShadeLot_api_ShadeLot (h:∀ (l:List (Int × (Int × Int) × Int)) (p:(Int × (Int × Int) × Int→Prop) × (Int × (Int × Int) × Int→Bool)),(l.length ≤ 1000000∧∀ x ∈ l,p.1 x)→vc_slices_ContainsFunc_api_ShadeLot_api_ShadeLot l p):OkC Tryz.prog 90 s_slices_ContainsFunc_api_ShadeLot_api_ShadeLot :=
 okC_vc fun90 mixed (C:=cx_slices_ContainsFunc_api_ShadeLot_api_ShadeLot) (V:=fun (d:(List (Int × (Int × Int) × Int)) × ((Int × (Int × Int) × Int→Prop) × (Int × (Int × Int) × Int→Bool)))=>vc_slices_ContainsFunc_api_ShadeLot_api_ShadeLot d.1 d.2) ⟨(.cons ok_slices_IndexFunc_api_ShadeLot_api_ShadeLot .nil),XsOk.nil,ItsOk.nil,YlOk.nil,IysOk.nil⟩ (vq_slices_ContainsFunc_api_ShadeLot_api_ShadeLot) fun d hp=>h d.1 d.2 hp
theorem ok_slices_ContainsFunc_api_ShadeLot_api_ShadeLot:Ok_slices_ContainsFunc_api_ShadeLot_api_ShadeLot:=mk_slices_ContainsFunc_api_ShadeLot_api_ShadeLot fun l p hp=>by
 simp only [vc_slices_ContainsFunc_api_ShadeLot_api_ShadeLot]
 exact ⟨hp,idxG_any l p.2,trivial⟩
def al_shade_Check:AL (List (Int × (Int × Int) × Int)):=(.one (.k (.list (.pair (.i .i64) (.pair (.pair (.i .i64) (.i .i64)) (.i .i64))))))
def pre_shade_Check (d:List (Int × (Int × Int) × Int)):Prop:=d.length ≤ 1000
def res_shade_Check (d:List (Int × (Int × Int) × Int)):SV:=.val (.i .i64) (lotsErr d)
def obs_shade_Check (d:List (Int × (Int × Int) × Int)):List OB:=[]
def s_shade_Check:CSp:=mkSp al_shade_Check pre_shade_Check res_shade_Check obs_shade_Check
def vc_shade_Check (l:List (Int × (Int × Int) × Int)):Prop :=
 ((decide ((lI l) > (12:Int)))=true →
  ((5:Int)=(lotsErr l)∧(True))) ∧
 ((decide ((lI l) > (12:Int)))=false →
  (l.length ≤ 1000000∧∀ x ∈ l,(fun (x1:Int × (Int × Int) × Int)=>True) x)∧((l.any (fun (x1:Int × (Int × Int) × Int)=>(!lotOk (x1.1,(x1.2.1.1,x1.2.1.2),x1.2.2))))=true →
   ((2:Int)=(lotsErr l)∧(True))) ∧
  ((l.any (fun (x1:Int × (Int × Int) × Int)=>(!lotOk (x1.1,(x1.2.1.1,x1.2.1.2),x1.2.2))))=false →
   ((0:Int)=(lotsErr l)∧(True))))
def cx_shade_Check:Cx:=⟨[],[(90,s_slices_ContainsFunc_api_ShadeLot_api_ShadeLot),(91,s_shade_Check_1)],10,[],0,[],[],[],[],false,[],[],[]⟩
def lp_shade_Check (l:List (Int × (Int × Int) × Int)):List (Nat × LoopAnn):=[]
set_option maxRecDepth 100000 in
theorem vq_shade_Check (d:List (Int × (Int × Int) × Int)):gwp (cx_shade_Check) (lp_shade_Check d) c69 0 (gend [.tmp 2] (res_shade_Check d) (obs_shade_Check d)) (gstart 10 (AL.can al_shade_Check d))=vc_shade_Check d:=by kernel_rfl
abbrev Ok_shade_Check:Prop:=OkC Tryz.prog 69 s_shade_Check
theorem mk_shade_Check (h:∀ (l:List (Int × (Int × Int) × Int)),(l.length ≤ 1000)→vc_shade_Check l):OkC Tryz.prog 69 s_shade_Check :=
 okC_vc fun69 mixed (C:=cx_shade_Check) (V:=fun (d:List (Int × (Int × Int) × Int))=>vc_shade_Check d) ⟨(.cons ok_slices_ContainsFunc_api_ShadeLot_api_ShadeLot (.cons ok_shade_Check_1 .nil)),XsOk.nil,ItsOk.nil,YlOk.nil,IysOk.nil⟩ (vq_shade_Check) fun d hp=>h d hp
theorem ok_shade_Check:Ok_shade_Check:=mk_shade_Check fun l hl=>by
 unfold vc_shade_Check; (try delta lI gD sT I64)
 (try simp only [decide_eq_true_eq,decide_eq_false_iff_not])
 refine ⟨fun h1=>⟨?_,trivial⟩,fun h1=>⟨⟨by omega,fun _ _=>trivial⟩,fun h2=>⟨?_,trivial⟩,fun h2=>⟨?_,trivial⟩⟩⟩
 ·unfold lotsErr; rw [if_pos (by omega)]
 ·unfold lotsErr; rw [if_neg (by omega),if_pos h2]
 ·unfold lotsErr; rw [if_neg (by omega),if_neg (by rw [show (l.any fun x=>!lotOk x)=false from h2]; decide)]
def al_law09_own:AL (List (Int × (Int × Int) × Int)):=(.one (.k (.list (.pair (.i .i64) (.pair (.pair (.i .i64) (.i .i64)) (.i .i64))))))
def pre_law09_own (d:List (Int × (Int × Int) × Int)):Prop:=d.length ≤ 1000
def res_law09_own (d:List (Int × (Int × Int) × Int)):SV:=.lst 0
def obs_law09_own (d:List (Int × (Int × Int) × Int)):List OB:=[.lst 78 (.pair (.i .i64) (.pair (.pair (.i .i64) (.i .i64)) (.i .i64))) d false]
def s_law09_own:CSp:=mkSp al_law09_own pre_law09_own res_law09_own obs_law09_own
def vc_law09_own (l:List (Int × (Int × Int) × Int)):Prop :=
 (((List.length ([]:List (Int × (Int × Int) × Int))) + (List.length l)) * 32 ≤ 70368744177664)∧(True∧(((([]:List (Int × (Int × Int) × Int))++l)=l∧((List.isEmpty l) && false)=false)∧True))
def cx_law09_own:Cx:=⟨[(78,(.pair (.i .i64) (.pair (.pair (.i .i64) (.i .i64)) (.i .i64))))],[],6,[],0,[],[],[],[],false,[],[],[]⟩
def lp_law09_own (l:List (Int × (Int × Int) × Int)):List (Nat × LoopAnn):=[]
set_option maxRecDepth 100000 in
theorem vq_law09_own (d:List (Int × (Int × Int) × Int)):gwp (cx_law09_own) (lp_law09_own d) c14 0 (gend [.tmp 2] (res_law09_own d) (obs_law09_own d)) (gstart 6 (AL.can al_law09_own d))=vc_law09_own d:=by kernel_rfl
abbrev Ok_law09_own:Prop:=OkC Tryz.prog 14 s_law09_own
theorem mk_law09_own (h:∀ (l:List (Int × (Int × Int) × Int)),(l.length ≤ 1000)→vc_law09_own l):OkC Tryz.prog 14 s_law09_own :=
 okC_vc fun14 mixed (C:=cx_law09_own) (V:=fun (d:List (Int × (Int × Int) × Int))=>vc_law09_own d) ⟨.nil,XsOk.nil,ItsOk.nil,YlOk.nil,IysOk.nil⟩ (vq_law09_own) fun d hp=>h d hp
theorem ok_law09_own:Ok_law09_own:=mk_law09_own fun l h=>by
 have h1:l.length * 32 ≤ 70368744177664:=by omega
 simp [vc_law09_own,h1]
def al_law09_same:AL ((List (Int × (Int × Int) × Int)) × List (Int × (Int × Int) × Int)):=(.cons (.k (.list (.pair (.i .i64) (.pair (.pair (.i .i64) (.i .i64)) (.i .i64))))) (.one (.k (.list (.pair (.i .i64) (.pair (.pair (.i .i64) (.i .i64)) (.i .i64)))))))
def pre_law09_same (d:(List (Int × (Int × Int) × Int)) × List (Int × (Int × Int) × Int)):Prop:=d.1.length ≤ 1000
def res_law09_same (d:(List (Int × (Int × Int) × Int)) × List (Int × (Int × Int) × Int)):SV:=.val .bo (d.1 == d.2)
def obs_law09_same (d:(List (Int × (Int × Int) × Int)) × List (Int × (Int × Int) × Int)):List OB:=[]
def s_law09_same:CSp:=mkSp al_law09_same pre_law09_same res_law09_same obs_law09_same
def vc_law09_same (a:List (Int × (Int × Int) × Int)) (b:List (Int × (Int × Int) × Int)):Prop :=
 (((lI a) != (lI b))=true →
  (false=(a == b)∧(True))) ∧
 (((lI a) != (lI b))=false →
  ∃ (e2:Unit) (d20:Int),((a=a∧b=b∧(0:Int)=d20∧True)∧(True)) ∧
  LoopP (fun (d2:Int) (q2:(Int)→Prop) =>
   ((decide (d2 < (lI a)))=true →
    (0 ≤ d2)∧(d2 < (List.length a))∧(0 ≤ d2)∧(d2 < (List.length b))∧((!(((gD a d2 (0,((0,0),0))).1 == (gD b d2 (0,((0,0),0))).1) && (((gD a d2 (0,((0,0),0))).2.1.1 == (gD b d2 (0,((0,0),0))).2.1.1) && (((gD a d2 (0,((0,0),0))).2.1.2 == (gD b d2 (0,((0,0),0))).2.1.2) && ((gD a d2 (0,((0,0),0))).2.2 == (gD b d2 (0,((0,0),0))).2.2)))))=true →
     (false=(a == b)∧(True))) ∧
    ((!(((gD a d2 (0,((0,0),0))).1 == (gD b d2 (0,((0,0),0))).1) && (((gD a d2 (0,((0,0),0))).2.1.1 == (gD b d2 (0,((0,0),0))).2.1.1) && (((gD a d2 (0,((0,0),0))).2.1.2 == (gD b d2 (0,((0,0),0))).2.1.2) && ((gD a d2 (0,((0,0),0))).2.2 == (gD b d2 (0,((0,0),0))).2.2)))))=false →
     (I64 (d2 + (1:Int)))∧(∃ d3:Int,((a=a∧b=b∧(d2 + (1:Int))=d3∧True)∧(True))∧q2 d3))) ∧
   ((decide (d2 < (lI a)))=false →
    (true=(a == b)∧(True)))) d20)
def cx_law09_same:Cx:=⟨[],[],26,[],0,[],[],[],[],false,[],[],[]⟩
def lp_law09_same (a:List (Int × (Int × Int) × Int)) (b:List (Int × (Int × Int) × Int)):List (Nat × LoopAnn):=[(0,⟨Unit,Int,[0,1,5],fun e x=>[.val (.list (.pair (.i .i64) (.pair (.pair (.i .i64) (.i .i64)) (.i .i64)))) a,.val (.list (.pair (.i .i64) (.pair (.pair (.i .i64) (.i .i64)) (.i .i64)))) b,.val (.i .i64) x],fun e x=>[]⟩)]
set_option maxRecDepth 100000 in
theorem vq_law09_same (d:(List (Int × (Int × Int) × Int)) × List (Int × (Int × Int) × Int)):gwp (cx_law09_same) (lp_law09_same d.1 d.2) c17 0 (gend [.tmp 4] (res_law09_same d) (obs_law09_same d)) (gstart 26 (AL.can al_law09_same d))=vc_law09_same d.1 d.2:=by kernel_rfl
abbrev Ok_law09_same:Prop:=OkC Tryz.prog 17 s_law09_same
theorem mk_law09_same (h:∀ (a:List (Int × (Int × Int) × Int)) (b:List (Int × (Int × Int) × Int)),(a.length ≤ 1000)→vc_law09_same a b):OkC Tryz.prog 17 s_law09_same :=
 okC_vc fun17 mixed (C:=cx_law09_same) (V:=fun (d:(List (Int × (Int × Int) × Int)) × List (Int × (Int × Int) × Int))=>vc_law09_same d.1 d.2) ⟨.nil,XsOk.nil,ItsOk.nil,YlOk.nil,IysOk.nil⟩ (vq_law09_same) fun d hp=>h d.1 d.2 hp
theorem ok_law09_same:Ok_law09_same:=mk_law09_same fun a b h=>by
 unfold vc_law09_same; (try delta lI gD sT I64)
 (try simp only [decide_eq_true_eq,decide_eq_false_iff_not])
 refine ⟨fun hx=>?_,fun hx=>⟨(),0,(by and_intros <;> first | rfl | trivial | simp),?_⟩⟩
 ·refine ⟨Eq.symm ?_,trivial⟩
  rw [beq_eq_false_iff_ne]
  rintro rfl
  simp at hx
 have hl:a.length=b.length:=by simp only [bne_eq_false_iff_eq] at hx; omega
 refine LoopP.count a.length (fun k=>∀ i,i < k→a.getD i lotD=b.getD i lotD) (fun i hi=>by omega) fun k hk hJ q hq=>?_
 simp only [Int.toNat_natCast,InK_i64]
 have hd:∀ l:List Lot,l.getD k (0,((0,0),0))=l.getD k lotD:=fun _=>rfl
 refine ⟨fun hlt=>⟨by omega,by omega,by omega,by omega,fun hx=>?_,fun hx=>⟨by omega,_,(by and_intros <;> first | rfl | trivial | simp),hq (by omega) fun i hi=>?_⟩⟩,fun hge=>?_⟩
 ·refine ⟨Eq.symm ?_,trivial⟩
  rw [beq_eq_false_iff_ne]
  rintro rfl
  simp at hx
 ·rcases Nat.lt_succ_iff_lt_or_eq.1 hi with hi | rfl
  ·exact hJ i hi
  ·simp only [Bool.not_eq_false',Bool.and_eq_true,beq_iff_eq,hd] at hx
   obtain ⟨x1,x2,x3,x4⟩:=hx
   exact Prod.ext x1 (Prod.ext (Prod.ext x2 x3) x4)
 ·have hk:k=a.length:=by omega
  subst hk
  refine ⟨Eq.symm ?_,trivial⟩
  rw [beq_iff_eq]
  exact List.ext_getElem hl fun i h1 h2=>by
   have:=hJ i h1
   rwa [getD_nat h1,getD_nat h2] at this
def al_ref09_Same:AL (List Int × List Int):=(.cons (.k (.list (.i .i64))) (.one (.k (.list (.i .i64)))))
def pre_ref09_Same (d:List Int × List Int):Prop:=d.1.length ≤ 1000
def res_ref09_Same (d:List Int × List Int):SV:=.val .bo (d.1 == d.2)
def obs_ref09_Same (d:List Int × List Int):List OB:=[]
def s_ref09_Same:CSp:=mkSp al_ref09_Same pre_ref09_Same res_ref09_Same obs_ref09_Same
def vc_ref09_Same (a:List Int) (b:List Int):Prop :=
 (((lI a) != (lI b))=true →
  (false=(a == b)∧(True))) ∧
 (((lI a) != (lI b))=false →
  ∃ (e2:Unit) (d20:Int),((a=a∧b=b∧(0:Int)=d20∧True)∧(True)) ∧
  LoopP (fun (d2:Int) (q2:(Int)→Prop) =>
   ((decide (d2 < (lI a)))=true →
    (0 ≤ d2)∧(d2 < (List.length a))∧(0 ≤ d2)∧(d2 < (List.length b))∧(((gD a d2 0) != (gD b d2 0))=true →
     (false=(a == b)∧(True))) ∧
    (((gD a d2 0) != (gD b d2 0))=false →
     (I64 (d2 + (1:Int)))∧(∃ d3:Int,((a=a∧b=b∧(d2 + (1:Int))=d3∧True)∧(True))∧q2 d3))) ∧
   ((decide (d2 < (lI a)))=false →
    (true=(a == b)∧(True)))) d20)
def cx_ref09_Same:Cx:=⟨[],[],26,[],0,[],[],[],[],false,[],[],[]⟩
def lp_ref09_Same (a:List Int) (b:List Int):List (Nat × LoopAnn):=[(0,⟨Unit,Int,[0,1,5],fun e x=>[.val (.list (.i .i64)) a,.val (.list (.i .i64)) b,.val (.i .i64) x],fun e x=>[]⟩)]
set_option maxRecDepth 100000 in
theorem vq_ref09_Same (d:List Int × List Int):gwp (cx_ref09_Same) (lp_ref09_Same d.1 d.2) c26 0 (gend [.tmp 4] (res_ref09_Same d) (obs_ref09_Same d)) (gstart 26 (AL.can al_ref09_Same d))=vc_ref09_Same d.1 d.2:=by kernel_rfl
abbrev Ok_ref09_Same:Prop:=OkC Tryz.prog 26 s_ref09_Same
theorem mk_ref09_Same (h:∀ (a:List Int) (b:List Int),(a.length ≤ 1000)→vc_ref09_Same a b):OkC Tryz.prog 26 s_ref09_Same :=
 okC_vc fun26 mixed (C:=cx_ref09_Same) (V:=fun (d:List Int × List Int)=>vc_ref09_Same d.1 d.2) ⟨.nil,XsOk.nil,ItsOk.nil,YlOk.nil,IysOk.nil⟩ (vq_ref09_Same) fun d hp=>h d.1 d.2 hp
theorem ok_ref09_Same:Ok_ref09_Same:=mk_ref09_Same fun a b h=>by
 unfold vc_ref09_Same; (try delta lI gD sT I64)
 (try simp only [decide_eq_true_eq,decide_eq_false_iff_not])
 refine ⟨fun hx=>?_,fun hx=>⟨(),0,(by and_intros <;> first | rfl | trivial | simp),?_⟩⟩
 ·refine ⟨Eq.symm ?_,trivial⟩
  rw [beq_eq_false_iff_ne]
  rintro rfl
  simp at hx
 have hl:a.length=b.length:=by simp only [bne_eq_false_iff_eq] at hx; omega
 refine LoopP.count a.length (fun k=>∀ i,i < k→a.getD i 0=b.getD i 0) (fun i hi=>by omega) fun k hk hJ q hq=>?_
 simp only [Int.toNat_natCast,InK_i64]
 refine ⟨fun hlt=>⟨by omega,by omega,by omega,by omega,fun hx=>?_,fun hx=>⟨by omega,_,(by and_intros <;> first | rfl | trivial | simp),hq (by omega) fun i hi=>?_⟩⟩,fun hge=>?_⟩
 ·refine ⟨Eq.symm ?_,trivial⟩
  rw [beq_eq_false_iff_ne]
  rintro rfl
  simp at hx
 ·rcases Nat.lt_succ_iff_lt_or_eq.1 hi with hi | rfl
  ·exact hJ i hi
  ·simpa using hx
 ·have hk:k=a.length:=by omega
  subst hk
  refine ⟨Eq.symm ?_,trivial⟩
  rw [beq_iff_eq]
  exact List.ext_getElem hl fun i h1 h2=>by
   have:=hJ i h1
   rwa [getD_nat h1,getD_nat h2] at this
def al_ref09_Check:AL (List (Int × (Int × Int) × Int)):=(.one (.k (.list (.pair (.i .i64) (.pair (.pair (.i .i64) (.i .i64)) (.i .i64))))))
def pre_ref09_Check (d:List (Int × (Int × Int) × Int)):Prop:=d.length ≤ 9223372036854775807
def res_ref09_Check (d:List (Int × (Int × Int) × Int)):SV:=.val (.i .i64) (lotsErr d)
def obs_ref09_Check (d:List (Int × (Int × Int) × Int)):List OB:=[]
def s_ref09_Check:CSp:=mkSp al_ref09_Check pre_ref09_Check res_ref09_Check obs_ref09_Check
def vc_ref09_Check (l:List (Int × (Int × Int) × Int)):Prop :=
 ((decide ((lI l) > (12:Int)))=true →
  ((5:Int)=(lotsErr l)∧(True))) ∧
 ((decide ((lI l) > (12:Int)))=false →
  ∃ (e2:Unit) (d20:Int),((l=l∧(0:Int)=d20∧True)∧(True)) ∧
  LoopP (fun (d2:Int) (q2:(Int)→Prop) =>
   ((decide (d2 < (lI l)))=true →
    (0 ≤ d2)∧(d2 < (List.length l))∧(True)∧((!(inI ((gD l d2 (0,((0,0),0))).1) (0:Int) (9:Int)))=false→True)∧((((!(inI ((gD l d2 (0,((0,0),0))).1) (0:Int) (9:Int))) || (!(inI ((gD l d2 (0,((0,0),0))).2.1.1) (0:Int) ((gD l d2 (0,((0,0),0))).2.1.2)))) || (decide ((gD l d2 (0,((0,0),0))).2.1.2 > (1000:Int))))=false→True)∧(((((!(inI ((gD l d2 (0,((0,0),0))).1) (0:Int) (9:Int))) || (!(inI ((gD l d2 (0,((0,0),0))).2.1.1) (0:Int) ((gD l d2 (0,((0,0),0))).2.1.2)))) || (decide ((gD l d2 (0,((0,0),0))).2.1.2 > (1000:Int)))) || (!(inI ((gD l d2 (0,((0,0),0))).2.2) (1:Int) (1000000:Int))))=true →
     ((2:Int)=(lotsErr l)∧(True))) ∧
    (((((!(inI ((gD l d2 (0,((0,0),0))).1) (0:Int) (9:Int))) || (!(inI ((gD l d2 (0,((0,0),0))).2.1.1) (0:Int) ((gD l d2 (0,((0,0),0))).2.1.2)))) || (decide ((gD l d2 (0,((0,0),0))).2.1.2 > (1000:Int)))) || (!(inI ((gD l d2 (0,((0,0),0))).2.2) (1:Int) (1000000:Int))))=false →
     (I64 (d2 + (1:Int)))∧(∃ d3:Int,((l=l∧(d2 + (1:Int))=d3∧True)∧(True))∧q2 d3))) ∧
   ((decide (d2 < (lI l)))=false →
    ((0:Int)=(lotsErr l)∧(True)))) d20)
def cx_ref09_Check:Cx:=⟨[],[(20,s_ref09_In)],44,[],0,[],[],[],[],false,[],[],[]⟩
def lp_ref09_Check (l:List (Int × (Int × Int) × Int)):List (Nat × LoopAnn):=[(0,⟨Unit,Int,[0,3],fun e x=>[.val (.list (.pair (.i .i64) (.pair (.pair (.i .i64) (.i .i64)) (.i .i64)))) l,.val (.i .i64) x],fun e x=>[]⟩)]
set_option maxRecDepth 100000 in
theorem vq_ref09_Check (d:List (Int × (Int × Int) × Int)):gwp (cx_ref09_Check) (lp_ref09_Check d) c43 0 (gend [.tmp 2] (res_ref09_Check d) (obs_ref09_Check d)) (gstart 44 (AL.can al_ref09_Check d))=vc_ref09_Check d:=by kernel_rfl
abbrev Ok_ref09_Check:Prop:=OkC Tryz.prog 43 s_ref09_Check
theorem mk_ref09_Check (h:∀ (l:List (Int × (Int × Int) × Int)),(l.length ≤ 9223372036854775807)→vc_ref09_Check l):OkC Tryz.prog 43 s_ref09_Check :=
 okC_vc fun43 mixed (C:=cx_ref09_Check) (V:=fun (d:List (Int × (Int × Int) × Int))=>vc_ref09_Check d) ⟨(.cons ok_ref09_In .nil),XsOk.nil,ItsOk.nil,YlOk.nil,IysOk.nil⟩ (vq_ref09_Check) fun d hp=>h d hp
theorem refLot (x:Lot):(!inI x.1 0 9 || !inI x.2.1.1 0 x.2.1.2 || decide (x.2.1.2 > 1000) || !inI x.2.2 1 1000000)=!lotOk x:=by
 rw [Bool.eq_iff_iff]
 simp only [Bool.or_eq_true,Bool.not_eq_true',Bool.eq_false_iff,ne_eq,lotOk_iff,inI,Bool.and_eq_true,decide_eq_true_eq]
 omega
theorem ok_ref09_Check:Ok_ref09_Check:=mk_ref09_Check fun l hl=>by
 unfold vc_ref09_Check; (try delta lI gD sT I64)
 simp only [refLot]
 (try simp only [decide_eq_true_eq,decide_eq_false_iff_not])
 refine ⟨fun h1=>⟨?_,trivial⟩,fun h1=>⟨(),0,(by and_intros <;> first | rfl | trivial | simp),?_⟩⟩
 ·unfold lotsErr; rw [if_pos (by omega)]
 refine LoopP.count l.length (fun k=>∀ j,j < k→lotOk (l.getD j lotD)=true) (fun j hj=>by omega) fun k hk hJ q hq=>?_
 simp only [Int.toNat_natCast,InK_i64]
 have hd:∀ l:List Lot,l.getD k (0,((0,0),0))=l.getD k lotD:=fun _=>rfl
 simp only [hd]
 refine ⟨fun hlt=>⟨by omega,hlt,trivial,fun _=>trivial,fun _=>trivial,fun hx=>⟨?_,trivial⟩,fun hx=>⟨by omega,_,(by and_intros <;> first | rfl | trivial | simp),hq (by omega) fun j hj=>?_⟩⟩,fun hge=>⟨?_,trivial⟩⟩
 ·have hkl:k < l.length:=by omega
  rw [getD_nat hkl] at hx
  unfold lotsErr; rw [if_neg (by omega),if_pos (List.any_eq_true.2 ⟨_,List.getElem_mem hkl,hx⟩)]
 ·rcases Nat.lt_succ_iff_lt_or_eq.1 hj with hj | rfl
  ·exact hJ j hj
  ·simpa using hx
 ·have hf:(l.any fun x=>!lotOk x)=false:=by
   rw [List.any_eq_false]
   intro x hx
   obtain ⟨i,hi,rfl⟩:=List.getElem_of_mem hx
   have:=hJ i (by omega)
   rw [getD_nat hi] at this
   rw [this]; decide
  unfold lotsErr; rw [if_neg (by omega),hf,if_neg (by decide)]
def al_ref09_Far:AL ((Int × Int × Int × Int) × Int × Int × Int × Int):=(.cons (.agg (.cons (.k (.i .i64)) (.cons (.k (.i .i64)) (.cons (.k (.i .i64)) (.one (.k (.i .i64))))))) (.one (.agg (.cons (.k (.i .i64)) (.cons (.k (.i .i64)) (.cons (.k (.i .i64)) (.one (.k (.i .i64)))))))))
def pre_ref09_Far (d:(Int × Int × Int × Int) × Int × Int × Int × Int):Prop:=0 ≤ d.1.2.1∧d.1.2.1 ≤ 1000∧0 ≤ d.1.2.2.1∧d.1.2.2.1 ≤ 1000∧0 ≤ d.2.2.1∧d.2.2.1 ≤ 1000∧0 ≤ d.2.2.2.1∧d.2.2.2.1 ≤ 1000
def res_ref09_Far (d:(Int × Int × Int × Int) × Int × Int × Int × Int):SV:=.val (.i .i64) (farL (d.1.1,(d.1.2.1,d.1.2.2.1),d.1.2.2.2) (d.2.1,(d.2.2.1,d.2.2.2.1),d.2.2.2.2))
def obs_ref09_Far (d:(Int × Int × Int × Int) × Int × Int × Int × Int):List OB:=[]
def s_ref09_Far:CSp:=mkSp al_ref09_Far pre_ref09_Far res_ref09_Far obs_ref09_Far
def vc_ref09_Far (lc:Int) (lo:Int) (hi:Int) (lg:Int) (mc:Int) (mo:Int) (mi:Int) (mg:Int):Prop :=
 (I64 (hi - mo))∧(I64 (mi - lo))∧((gmax (hi - mo) (mi - lo))=(farL (lc,(lo,hi),lg) (mc,(mo,mi),mg))∧(True))
def cx_ref09_Far:Cx:=⟨[],[],20,[],0,[],[],[],[],false,[],[],[]⟩
def lp_ref09_Far (lc:Int) (lo:Int) (hi:Int) (lg:Int) (mc:Int) (mo:Int) (mi:Int) (mg:Int):List (Nat × LoopAnn):=[]
set_option maxRecDepth 100000 in
theorem vq_ref09_Far (d:(Int × Int × Int × Int) × Int × Int × Int × Int):gwp (cx_ref09_Far) (lp_ref09_Far d.1.1 d.1.2.1 d.1.2.2.1 d.1.2.2.2 d.2.1 d.2.2.1 d.2.2.2.1 d.2.2.2.2) c73 0 (gend [.tmp 4] (res_ref09_Far d) (obs_ref09_Far d)) (gstart 20 (AL.can al_ref09_Far d))=vc_ref09_Far d.1.1 d.1.2.1 d.1.2.2.1 d.1.2.2.2 d.2.1 d.2.2.1 d.2.2.2.1 d.2.2.2.2:=by kernel_rfl
abbrev Ok_ref09_Far:Prop:=OkC Tryz.prog 73 s_ref09_Far
theorem mk_ref09_Far (h:∀ (lc:Int) (lo:Int) (hi:Int) (lg:Int) (mc:Int) (mo:Int) (mi:Int) (mg:Int),(0 ≤ lo∧lo ≤ 1000∧0 ≤ hi∧hi ≤ 1000∧0 ≤ mo∧mo ≤ 1000∧0 ≤ mi∧mi ≤ 1000)→vc_ref09_Far lc lo hi lg mc mo mi mg):OkC Tryz.prog 73 s_ref09_Far :=
 okC_vc fun73 mixed (C:=cx_ref09_Far) (V:=fun (d:(Int × Int × Int × Int) × Int × Int × Int × Int)=>vc_ref09_Far d.1.1 d.1.2.1 d.1.2.2.1 d.1.2.2.2 d.2.1 d.2.2.1 d.2.2.2.1 d.2.2.2.2) ⟨.nil,XsOk.nil,ItsOk.nil,YlOk.nil,IysOk.nil⟩ (vq_ref09_Far) fun d hp=>h d.1.1 d.1.2.1 d.1.2.2.1 d.1.2.2.2 d.2.1 d.2.2.1 d.2.2.2.1 d.2.2.2.2 hp
theorem ok_ref09_Far:Ok_ref09_Far:=mk_ref09_Far fun lc lo hi lg mc mo mi mg h=>by
 obtain ⟨h1,h2,h3,h4,h5,h6,h7,h8⟩:=h
 unfold vc_ref09_Far; (try delta lI gD sT I64)
 refine ⟨by rw [InK_i64]; omega,by rw [InK_i64]; omega,rfl,trivial⟩
end Go.Proofs.Tryz
set_option linter.unusedVariables false
namespace Go.Proofs.Tryz
open Go Go.V Go.Proofs
def al_shade_spread:AL (List (Int × (Int × Int) × Int)):=(.one (.k (.list (.pair (.i .i64) (.pair (.pair (.i .i64) (.i .i64)) (.i .i64))))))
def pre_shade_spread (d:List (Int × (Int × Int) × Int)):Prop:=d ≠ []∧d.length ≤ 1000∧∀ x ∈ d,lotOk x=true
def res_shade_spread (d:List (Int × (Int × Int) × Int)):SV:=.agg [.val (.i .i64) ((sprD d).1),.val (.i .i64) ((sprD d).2)]
def obs_shade_spread (d:List (Int × (Int × Int) × Int)):List OB:=[]
def s_shade_spread:CSp:=mkSp al_shade_spread pre_shade_spread res_shade_spread obs_shade_spread
def vc_shade_spread (l:List (Int × (Int × Int) × Int)):Prop :=
 (0 ≤ (0:Int))∧((0:Int) < (List.length l))∧(0 ≤ (0:Int))∧((0:Int) < (List.length l))∧((l=l∧True∧True∧True∧((gD l (0:Int) (0,((0,0),0))).2.1.1=(gD l (0:Int) (0,((0,0),0))).2.1.1∧(gD l (0:Int) (0,((0,0),0))).2.1.2=(gD l (0:Int) (0,((0,0),0))).2.1.2∧(([]:List SV)=[]))∧True)∧(((0:Int)=(0:Int)∧(0:Int)=(0:Int)∧(([]:List SV)=[]))∧((gD l (0:Int) (0,((0,0),0))).2.1.1=(gD l (0:Int) (0,((0,0),0))).2.1.1∧(gD l (0:Int) (0,((0,0),0))).2.1.2=(gD l (0:Int) (0,((0,0),0))).2.1.2∧(([]:List SV)=[]))∧((0:Int)=(0:Int)∧(0:Int)=(0:Int)∧(([]:List SV)=[]))∧True))∧((0 ≤ (0:Int))∧((0:Int) < (List.length l))∧(0 ≤ (0:Int))∧((0:Int) < (List.length l))∧((l=l∧True∧True∧True∧((gD l (0:Int) (0,((0,0),0))).2.1.1=(gD l (0:Int) (0,((0,0),0))).2.1.1∧(gD l (0:Int) (0,((0,0),0))).2.1.2=(gD l (0:Int) (0,((0,0),0))).2.1.2∧(([]:List SV)=[]))∧True)∧(((0:Int)=(0:Int)∧(0:Int)=(0:Int)∧(([]:List SV)=[]))∧((gD l (0:Int) (0,((0,0),0))).2.1.1=(gD l (0:Int) (0,((0,0),0))).2.1.1∧(gD l (0:Int) (0,((0,0),0))).2.1.2=(gD l (0:Int) (0,((0,0),0))).2.1.2∧(([]:List SV)=[]))∧((0:Int)=(0:Int)∧(0:Int)=(0:Int)∧(([]:List SV)=[]))∧True)))∧(0 ≤ (1:Int))∧((1:Int) ≤ (lI l))∧((lI l) ≤ (List.length l))∧∃ (e3:Unit) (d30:Int × Int × Int × Int × Int),((True∧True∧True∧(List.take (Int.toNat ((lI l) - (1:Int))) (List.drop (Int.toNat (1:Int)) l))=(List.take (Int.toNat ((lI l) - (1:Int))) (List.drop (Int.toNat (1:Int)) l))∧(lI (List.take (Int.toNat ((lI l) - (1:Int))) (List.drop (Int.toNat (1:Int)) l)))=(lI (List.take (Int.toNat ((lI l) - (1:Int))) (List.drop (Int.toNat (1:Int)) l)))∧(0:Int)=d30.2.2.2.2∧True)∧(((0:Int)=(0:Int)∧(0:Int)=(0:Int)∧(([]:List SV)=[]))∧((gD l (0:Int) (0,((0,0),0))).2.1.1=d30.1∧(gD l (0:Int) (0,((0,0),0))).2.1.2=d30.2.1∧(([]:List SV)=[]))∧((gD l (0:Int) (0,((0,0),0))).2.1.1=d30.2.2.1∧(gD l (0:Int) (0,((0,0),0))).2.1.2=d30.2.2.2.1∧(([]:List SV)=[]))∧True)) ∧
 LoopP (fun (d3:Int × Int × Int × Int × Int) (q3:(Int × Int × Int × Int × Int)→Prop) =>
  ((decide (d3.2.2.2.2 < (lI (List.take (Int.toNat ((lI l) - (1:Int))) (List.drop (Int.toNat (1:Int)) l)))))=true →
   (0 ≤ d3.2.2.2.2)∧(d3.2.2.2.2 < (List.length (List.take (Int.toNat ((lI l) - (1:Int))) (List.drop (Int.toNat (1:Int)) l))))∧(I64 (d3.2.2.2.2 + (1:Int)))∧(∃ d4:Int × Int × Int × Int × Int,((True∧True∧True∧(List.take (Int.toNat ((lI l) - (1:Int))) (List.drop (Int.toNat (1:Int)) l))=(List.take (Int.toNat ((lI l) - (1:Int))) (List.drop (Int.toNat (1:Int)) l))∧(lI (List.take (Int.toNat ((lI l) - (1:Int))) (List.drop (Int.toNat (1:Int)) l)))=(lI (List.take (Int.toNat ((lI l) - (1:Int))) (List.drop (Int.toNat (1:Int)) l)))∧(d3.2.2.2.2 + (1:Int))=d4.2.2.2.2∧True)∧(((0:Int)=(0:Int)∧(0:Int)=(0:Int)∧(([]:List SV)=[]))∧((gmax d3.1 (gD (List.take (Int.toNat ((lI l) - (1:Int))) (List.drop (Int.toNat (1:Int)) l)) d3.2.2.2.2 (0,((0,0),0))).2.1.1)=d4.1∧(gmin d3.2.1 (gD (List.take (Int.toNat ((lI l) - (1:Int))) (List.drop (Int.toNat (1:Int)) l)) d3.2.2.2.2 (0,((0,0),0))).2.1.2)=d4.2.1∧(([]:List SV)=[]))∧((gmin d3.2.2.1 (gD (List.take (Int.toNat ((lI l) - (1:Int))) (List.drop (Int.toNat (1:Int)) l)) d3.2.2.2.2 (0,((0,0),0))).2.1.1)=d4.2.2.1∧(gmax d3.2.2.2.1 (gD (List.take (Int.toNat ((lI l) - (1:Int))) (List.drop (Int.toNat (1:Int)) l)) d3.2.2.2.2 (0,((0,0),0))).2.1.2)=d4.2.2.2.1∧(([]:List SV)=[]))∧True))∧q3 d4)) ∧
  ((decide (d3.2.2.2.2 < (lI (List.take (Int.toNat ((lI l) - (1:Int))) (List.drop (Int.toNat (1:Int)) l)))))=false →
   (I64 (d3.1 - d3.2.1))∧(I64 (d3.2.2.2.1 - d3.2.2.1))∧(((gmax (0:Int) (d3.1 - d3.2.1))=((sprD l).1)∧(d3.2.2.2.1 - d3.2.2.1)=((sprD l).2)∧(([]:List SV)=[]))∧(True)))) d30
def cx_shade_spread:Cx:=⟨[],[],61,[],0,[],[],[],[0,2,3,4,14],false,[],[],[]⟩
def lp_shade_spread (l:List (Int × (Int × Int) × Int)):List (Nat × LoopAnn):=[(0,⟨Unit,Int × Int × Int × Int × Int,[2,3,4,16,17,18],fun e x=>[.box 2 0,.box 3 0,.box 4 0,.val (.list (.pair (.i .i64) (.pair (.pair (.i .i64) (.i .i64)) (.i .i64)))) (List.take (Int.toNat ((((List.length l):Nat):Int) - (1:Int))) (List.drop (Int.toNat (1:Int)) l)),.val (.i .i64) (((List.length (List.take (Int.toNat ((((List.length l):Nat):Int) - (1:Int))) (List.drop (Int.toNat (1:Int)) l))):Nat):Int),.val (.i .i64) x.2.2.2.2],fun e x=>[(2,.slot 2,.cells [.val (.i .i64) (0:Int),.val (.i .i64) (0:Int)] (some 59)),(3,.slot 3,.cells [.val (.i .i64) x.1,.val (.i .i64) x.2.1] (some 59)),(4,.slot 4,.cells [.val (.i .i64) x.2.2.1,.val (.i .i64) x.2.2.2.1] (some 59))]⟩)]
set_option maxRecDepth 100000 in
theorem vq_shade_spread (d:List (Int × (Int × Int) × Int)):gwp (cx_shade_spread) (lp_shade_spread d) c70 0 (gend [.cell 2 true 2] (res_shade_spread d) (obs_shade_spread d)) (gstart 61 (AL.can al_shade_spread d))=vc_shade_spread d:=by kernel_rfl
abbrev Ok_shade_spread:Prop:=OkC Tryz.prog 70 s_shade_spread
theorem mk_shade_spread (h:∀ (l:List (Int × (Int × Int) × Int)),(l ≠ []∧l.length ≤ 1000∧∀ x ∈ l,lotOk x=true)→vc_shade_spread l):OkC Tryz.prog 70 s_shade_spread :=
 okC_vc fun70 mixed (C:=cx_shade_spread) (V:=fun (d:List (Int × (Int × Int) × Int))=>vc_shade_spread d) ⟨.nil,XsOk.nil,ItsOk.nil,YlOk.nil,IysOk.nil⟩ (vq_shade_spread) fun d hp=>h d hp
theorem ok_shade_spread:Ok_shade_spread:=mk_shade_spread fun l h=>by
 obtain ⟨h1,h2,h3⟩:=h
 have hp:1 ≤ l.length:=List.length_pos_iff.2 h1
 unfold vc_shade_spread; (try delta lI gD sT I64)
 simp only [decide_eq_true_eq,decide_eq_false_iff_not]
 have hM:List.take ((l.length:Int) - 1).toNat (List.drop (Int.toNat 1) l)=l.drop 1:=List.take_of_length_le (by rw [List.length_drop]; show l.length - 1 ≤ _; omega)
 have hMl:(l.drop 1).length=l.length - 1:=List.length_drop ..
 have hMk:∀ k,k + 1 < l.length→(l.drop 1).getD k (0,((0,0),0))=l[k + 1]?.getD lotD:=fun k hk=>by
  rw [getD_nat (by omega),List.getElem_drop,List.getElem?_eq_getElem hk]
  simp only [Option.getD_some,Nat.add_comm]
 have h0:l.getD (Int.toNat 0) (0,((0,0),0))=l.getD 0 lotD:=rfl
 have s1:=sprF_one h1
 rw [hM,h0]
 refine ⟨by omega,by omega,by omega,by omega,(by and_intros <;> first | rfl | trivial | simp),⟨by omega,by omega,by omega,by omega,(by and_intros <;> first | rfl | trivial | simp)⟩,by omega,by omega,by omega,(),((sprF l 1).1,(sprF l 1).2.1,(sprF l 1).2.2.1,(sprF l 1).2.2.2,0),by rw [s1]; exact (by and_intros <;> first | rfl | trivial | simp),?_⟩
 refine ⟨fun d=>∃ k:Nat,k + 1 ≤ l.length∧d=((sprF l (k + 1)).1,(sprF l (k + 1)).2.1,(sprF l (k + 1)).2.2.1,(sprF l (k + 1)).2.2.2,(k:Int)),fun d=>l.length - d.2.2.2.2.toNat,⟨0,hp,rfl⟩,?_⟩
 rintro _ ⟨k,hk,rfl⟩
 dsimp only
 simp only [Int.toNat_natCast,hMl]
 refine ⟨fun hlt=>?_,fun hge=>?_⟩
 ·have hk1:k + 1 < l.length:=by omega
  rw [hMk k hk1,List.getElem?_eq_getElem hk1,Option.getD_some]
  have hs:=sprF_succ hk1
  refine ⟨by omega,by omega,by rw [InK_i64]; omega,((sprF l (k + 1 + 1)).1,(sprF l (k + 1 + 1)).2.1,(sprF l (k + 1 + 1)).2.2.1,(sprF l (k + 1 + 1)).2.2.2,(k:Int) + 1),by rw [hs]; exact (by and_intros <;> first | rfl | trivial | simp),⟨k + 1,by omega,by simp⟩,?_⟩
  dsimp only
  omega
 ·have hkl:k + 1=l.length:=by omega
  obtain ⟨a,⟨i1,b1,c1⟩,⟨i2,b2,c2⟩,⟨i3,b3,c3⟩,⟨i4,b4,c4⟩⟩:=sprF_spec h1 l.length hp (Nat.le_refl _)
  have hv:∀ i,i < l.length→0 ≤ (l.getD i lotD).2.1.1∧(l.getD i lotD).2.1.1 ≤ 1000∧0 ≤ (l.getD i lotD).2.1.2∧(l.getD i lotD).2.1.2 ≤ 1000:=fun i hi=>by
   have:=lotOk_iff.1 (h3 _ (List.getElem_mem hi))
   rw [getD_nat hi]; omega
  have v1:=hv i1 b1
  have v2:=hv i2 b2
  have v3:=hv i3 b3
  have v4:=hv i4 b4
  rw [hkl]
  unfold sprD
  refine ⟨by rw [InK_i64]; omega,by rw [InK_i64]; omega,?_⟩
  and_intros <;> first | rfl | trivial
end Go.Proofs.Tryz
set_option linter.unusedVariables false
namespace Go.Proofs.Tryz
open Go Go.V Go.Proofs
theorem lots_zero {l:List Lot} (h:lotsErr l=0):l.length ≤ 12∧∀ x ∈ l,lotOk x=true:=by
 unfold lotsErr at h
 split at h
 ·cases h
 ·split at h
  ·cases h
  ·rename_i h1 h2
   refine ⟨by omega,fun x hx=>?_⟩
   have:=List.any_eq_false.1 (Bool.eq_false_iff.2 h2) x hx
   simpa using this
theorem pickL_snoc {l:List Lot} {sm:List Int} {k:Nat} (h:k < sm.length):pickL l (sm.take (k + 1))=pickL l (sm.take k)++[l.getD (sm.getD k 0).toNat lotD]:=by
 unfold pickL; rw [take_succ_eq h,List.map_append,getD_nat h]; rfl
theorem pickL_ok {l:List Lot} {sm:List Int} (h:∀ x ∈ l,lotOk x=true) (hs:∀ i ∈ sm,0 ≤ i∧i < l.length):∀ x ∈ pickL l sm,lotOk x=true:=fun x hx=>by
 simp only [pickL,List.mem_map] at hx
 obtain ⟨i,hi,rfl⟩:=hx
 have:=hs i hi
 rw [getD_nat (show i.toNat < l.length by omega)]
 exact h _ (List.getElem_mem _)
end Go.Proofs.Tryz
set_option linter.unusedVariables false
namespace Go.Proofs.Tryz
open Go Go.V Go.Proofs
def tzK:Nat→Nat→Nat
 | 0,_=>0
 | f + 1,n=>if n % 2=1 then 0 else 1 + tzK f (n / 2)
def tzN (n:Nat):Nat:=if n=0 then 64 else tzK 64 n
theorem tzK_spec:∀ f n,0 < n→n < 2 ^ f→tzK f n < f∧∃ m,n=2 ^ tzK f n * (2 * m + 1)
 | 0,n,h0,h1=>by simp at h1; omega
 | f + 1,n,h0,h1=>by
  unfold tzK
  split
  ·rename_i h
   exact ⟨by omega,n / 2,by omega⟩
  ·rename_i h
   have hp:2 ^ (f + 1)=2 * 2 ^ f:=by rw [Nat.pow_succ]; omega
   obtain ⟨h2,m,h3⟩:=tzK_spec f (n / 2) (by omega) (by omega)
   refine ⟨by omega,m,?_⟩
   rw [Nat.add_comm,Nat.pow_succ,Nat.mul_comm (2 ^ _) 2,Nat.mul_assoc,←h3]
   omega
theorem tzN_spec {n:Nat} (h0:0 < n) (h1:n < 2 ^ 64):tzN n < 64∧∃ m,n=2 ^ tzN n * (2 * m + 1):=by
 unfold tzN
 rw [if_neg (by omega)]
 exact tzK_spec 64 n h0 h1
theorem pred_bits {t m:Nat} (i:Nat):(2 ^ t * (2 * m + 1) - 1).testBit i=if i < t then true else if i=t then false else (2 ^ t * (2 * m + 1)).testBit i:=by
 have hp:0 < 2 ^ t:=Nat.two_pow_pos t
 have e:2 ^ t * (2 * m + 1) - 1=2 ^ t * (2 * m) + (2 ^ t - 1):=by rw [Nat.mul_add,Nat.mul_one]; omega
 rw [e,Nat.testBit_two_pow_mul_add _ (by omega)]
 split
 ·rename_i h
  rw [Nat.testBit_two_pow_sub_one]; simpa using h
 ·rename_i h
  split
  ·rename_i h2
   subst h2
   simp
  ·rename_i h2
   rw [Nat.testBit_two_pow_mul]
   obtain ⟨k,hk⟩:∃ k,i - t=k + 1:=⟨i - t - 1,by omega⟩
   have hd:decide (i ≥ t)=true:=decide_eq_true (by omega)
   rw [hd,hk,Nat.testBit_succ,Nat.testBit_succ,Bool.true_and]
   congr 1
   omega
theorem low_bit {n:Nat} (h0:0 < n) (h1:n < 2 ^ 64):n &&& (2 ^ 64 - n)=2 ^ tzN n:=by
 obtain ⟨ht,m,hm⟩:=tzN_spec h0 h1
 generalize tzN n=t at *
 refine Nat.eq_of_testBit_eq fun i=>?_
 have e:2 ^ 64 - n=2 ^ 64 - ((n - 1) + 1):=by omega
 rw [Nat.testBit_and,e,Nat.testBit_two_pow_sub_succ (by omega),Nat.testBit_two_pow,hm,pred_bits]
 by_cases h2:i < t
 ·rw [if_pos h2,Nat.testBit_two_pow_mul,decide_eq_false (show ¬ i ≥ t by omega),decide_eq_false (show ¬ t=i by omega)]; rfl
 ·rw [if_neg h2]
  by_cases h3:i=t
  ·subst h3
   rw [if_pos rfl,Nat.testBit_two_pow_mul]
   simp
   omega
  ·rw [if_neg h3,decide_eq_false (show ¬ t=i by omega)]
   cases (2 ^ t * (2 * m + 1)).testBit i <;> simp
theorem clear_bit {n:Nat} (h0:0 < n) (h1:n < 2 ^ 64) (i:Nat):(n &&& (n - 1)).testBit i=(n.testBit i && !decide (i=tzN n)):=by
 obtain ⟨ht,m,hm⟩:=tzN_spec h0 h1
 generalize tzN n=t at *
 rw [Nat.testBit_and,hm,pred_bits]
 by_cases h2:i < t
 ·rw [if_pos h2,decide_eq_false (by omega)]; simp
 ·rw [if_neg h2]
  by_cases h3:i=t
  ·rw [if_pos h3,decide_eq_true h3]; simp
  ·rw [if_neg h3,decide_eq_false h3]; simp
def setK:Nat→Nat→List Int
 | 0,_=>[]
 | f + 1,n=>if n=0 then [] else (tzN n:Int) :: setK f (n &&& (n - 1))
def setL (n:Nat):List Int:=setK n n
theorem setK_more:∀ f g n,n ≤ f→n ≤ g→setK f n=setK g n
 | 0,g,n,h1,_=>by
  have:n=0:=by omega
  subst this
  cases g <;> simp [setK]
 | f + 1,0,n,_,h2=>by
  have:n=0:=by omega
  subst this; simp [setK]
 | f + 1,g + 1,n,h1,h2=>by
  unfold setK
  by_cases h:n=0
  ·rw [if_pos h,if_pos h]
  ·rw [if_neg h,if_neg h]
   have:=Nat.and_le_right (n:=n) (m:=n - 1)
   rw [setK_more f g _ (by omega) (by omega)]
theorem setL_step {n:Nat} (h:0 < n):setL n=(tzN n:Int) :: setL (n &&& (n - 1)):=by
 have:=Nat.and_le_right (n:=n) (m:=n - 1)
 unfold setL
 obtain ⟨f,rfl⟩:∃ f,n=f + 1:=⟨n - 1,by omega⟩
 conv=>lhs; unfold setK
 rw [if_neg (by omega),setK_more f _ _ (by omega) (Nat.le_refl _)]
theorem setL_zero:setL 0=[]:=rfl
theorem tab_at:∀ t:Nat,t < 64→Go.V.t64[(2 ^ t * 285870213051353865 % 18446744073709551616) / 288230376151711744]?=some (t:Int):=by decide +kernel
end Go.Proofs.Tryz
set_option linter.unusedVariables false
namespace Go.Proofs.Tryz
open Go Go.V Go.Proofs
def czT:VCode :=
 .seq (.region [
  ⟨(some 2),.move (.const (.int .i64 (0))),none⟩])
 (.seq (.seq (.region [
  ⟨(some 3),.move (.tmp 0),none⟩,
  ⟨(some 4),.cmp .eql (.tmp 3) (.const (.int .u64 (0))),none⟩])
 (.cond (.tmp 4) (.seq (.region [
   ⟨(some 2),.move (.const (.int .i64 (64))),none⟩])
  (.ret))
  (.skip)))
 (.seq (.region [
  ⟨(some 5),.move (.tmp 0),none⟩,
  ⟨(some 6),.move (.tmp 0),none⟩,
  ⟨(some 7),.un .neg (.tmp 6),none⟩,
  ⟨(some 8),.bits .and (.tmp 5) (.tmp 7),none⟩,
  ⟨(some 9),.arith .mul (.tmp 8) (.const (.int .u64 (285870213051353865))),none⟩,
  ⟨(some 10),.shift .shr (.tmp 9) (.const (.int .u64 (58))),none⟩,
  ⟨(some 11),.indexAddrArr 64 1 (.global 1) (.tmp 10),none⟩,
  ⟨(some 12),.load false 1 (.tmp 11),none⟩,
  ⟨(some 13),.convI .i64 (.tmp 12),none⟩,
  ⟨(some 2),.move (.tmp 13),none⟩])
 (.ret)))
theorem vstepT {S:VSpecs} {op:VOp} {d:Option Nat} {l:List VOper} {env:Env} {σ:Heap} {K:Env→Heap→Prop} (v:Value) (h:∀ Q:Value→Heap→Prop,Q v σ→vop S op env σ Q) (hK:vops S l (putE env d v) σ K):vops S (⟨d,op,none⟩ :: l) env σ K:=by
 show vif true _ _
 exact ⟨fun _=>h _ hK,fun h=>by cases h⟩
theorem vop_cmp {S:VSpecs} {op:BinOp} {x y:Operand} {env:Env} {σ:Heap} {Q:Value→Heap→Prop} {k:IntKind} {a b:Int} (hx:evalO env x=.int k a) (hy:evalO env y=.int k b) (h:Q (.bool (vcmp op a b)) σ):vop S (.cmp op x y) env σ Q:=by
 simp only [vop,vact,hx,hy,if_true,obind]; exact h
theorem vop_bits {S:VSpecs} {op:BinOp} {x y:Operand} {env:Env} {σ:Heap} {Q:Value→Heap→Prop} {k:IntKind} {a b:Int} (hx:evalO env x=.int k a) (hy:evalO env y=.int k b) (h:Q (.int k (vbits op k a b)) σ):vop S (.bits op x y) env σ Q:=by
 simp only [vop,vact,hx,hy,if_true,obind]; exact h
theorem vop_arith {S:VSpecs} {op:BinOp} {x y:Operand} {env:Env} {σ:Heap} {Q:Value→Heap→Prop} {k:IntKind} {a b:Int} (hx:evalO env x=.int k a) (hy:evalO env y=.int k b) (h:Q (.int k (varith op k a b)) σ):vop S (.arith op x y) env σ Q:=by
 simp only [vop,vact,hx,hy,if_true,obind]; exact h
theorem vop_shift {S:VSpecs} {op:BinOp} {x y:Operand} {env:Env} {σ:Heap} {Q:Value→Heap→Prop} {k k':IntKind} {a b:Int} (hx:evalO env x=.int k a) (hy:evalO env y=.int k' b) (h0:0 ≤ b) (h:Q (.int k (vshift op k a b)) σ):vop S (.shift op x y) env σ Q:=by
 simp only [vop,vact,hx,hy,h0,if_true,obind]; exact h
theorem vop_conv {S:VSpecs} {x:Operand} {env:Env} {σ:Heap} {Q:Value→Heap→Prop} {k k':IntKind} {a:Int} (hx:evalO env x=.int k a) (h:Q (.int k' (k'.wrap a)) σ):vop S (.convI k' x) env σ Q:=by
 simp only [vop,vact,hx,obind]; exact h
theorem vop_arr {S:VSpecs} {len size g o s:Nat} {x y:Operand} {env:Env} {σ:Heap} {Q:Value→Heap→Prop} {k':IntKind} {b:Int} (hx:evalO env x=.pointer (some ⟨g,o,some s⟩)) (hy:evalO env y=.int k' b) (h0:0 ≤ b∧b < len) (h:Q (.pointer (some ⟨g,o + b.toNat * size,some s⟩)) σ):vop S (.indexAddrArr len size x y) env σ Q:=by
 simp only [vop,vact,hx,hy,h0,and_self,if_true,obind]; exact h
theorem vop_load {S:VSpecs} {size g o s:Nat} {agg:Bool} {x:Operand} {env:Env} {σ:Heap} {Q:Value→Heap→Prop} {c:List Value} {v:Value} (hx:evalO env x=.pointer (some ⟨g,o,some s⟩)) (hg:gtab g=some c) (hp:c.all plainV=true) (hv:vpart agg size c o=some v) (h:Q v σ):vop S (.load agg size x) env σ Q:=by
 simp only [vop,vact,hx,hg,hp,hv,if_true,obind]; exact h
theorem wrap_u64 (x:Int):IntKind.wrap .u64 x=x % 18446744073709551616:=by
 show (if (false && decide (x % (18446744073709551616:Int) ≥ 9223372036854775808))=true then x % (18446744073709551616:Int) - 18446744073709551616 else x % (18446744073709551616:Int))=_
 simp
theorem toNat_ofInt64 {x:Nat} (h:x < 2 ^ 64):(BitVec.ofInt 64 (x:Int)).toNat=x:=by
 rw [ofInt_nat,BitVec.toNat_ofNat,Nat.mod_eq_of_lt h]
theorem vand_u64 {x y:Nat} (hx:x < 2 ^ 64) (hy:y < 2 ^ 64):vbits .and .u64 x y=((x &&& y:Nat):Int):=by
 have e:(BitVec.ofInt 64 (x:Int) &&& BitVec.ofInt 64 (y:Int)).toNat=x &&& y:=by rw [BitVec.toNat_and,toNat_ofInt64 hx,toNat_ofInt64 hy]
 show IntKind.wrap .u64 ((BitVec.ofInt 64 (x:Int) &&& BitVec.ofInt 64 (y:Int)).toNat:Int)=_
 have hl:x &&& y ≤ x:=Nat.and_le_left
 rw [e,wrap_u64]; omega
set_option maxHeartbeats 2000000 in
theorem tz_run {P:Program} {f:Nat} (h:Fun P f czT [.tmp 2] 14) (hm:P.follows .mixedOrders=true) {x:Int} (h0:0 ≤ x) (h1:x ≤ 18446744073709551615) {σ:Heap} {K:Value→Heap→Prop} (hK:K (.int .i64 (tzN x.toNat)) σ):VCalled P f [.int .u64 x] σ K:=by
 refine h.calls hm okSem ?_
 obtain ⟨n,rfl⟩:=Int.eq_ofNat_of_zero_le h0
 have h1:n < 2 ^ 64:=by omega
 rw [Int.toNat_natCast] at hK
 unfold czT
 refine vstepT (.int .i64 0) (fun _ h=>h) ?_
 refine vstepT (.int .u64 n) (fun _ h=>h) ?_
 refine vstepT (.bool ((n:Int) == 0)) (fun _ h=>vop_cmp (k:=.u64) (a:=n) (b:=0) rfl rfl h) ?_
 show vif ((n:Int) == 0) _ _
 refine ⟨fun hz=>?_,fun hz=>?_⟩
 ·have hz:n=0:=by have:=eq_of_beq hz; omega
  subst hz
  refine vstepT (.int .i64 64) (fun _ h=>h) ?_
  exact ⟨_,_,DropTo.refl _ _ _,hK⟩
 have hz:0 < n:=by
  rcases Nat.eq_zero_or_pos n with h | h
  ·subst h; cases hz
  ·exact h
 refine vstepT (.int .u64 n) (fun _ h=>h) ?_
 refine vstepT (.int .u64 n) (fun _ h=>h) ?_
 refine vstepT (.int .u64 (IntKind.u64.wrap (0 - (n:Int)))) (fun _ h=>h) ?_
 have hand:vbits .and .u64 n (IntKind.u64.wrap (0 - (n:Int)))=((2 ^ tzN n:Nat):Int):=by
  have e:IntKind.u64.wrap (0 - (n:Int))=((2 ^ 64 - n:Nat):Int):=by rw [wrap_u64]; omega
  rw [e,vand_u64 h1 (by omega),low_bit hz h1]
 refine vstepT (.int .u64 ((2 ^ tzN n:Nat):Int)) (fun _ h=>vop_bits (k:=.u64) (a:=n) (b:=IntKind.u64.wrap (0 - (n:Int))) rfl rfl (by rw [hand]; exact h)) ?_
 have hmul:varith .mul .u64 ((2 ^ tzN n:Nat):Int) 285870213051353865=((2 ^ tzN n * 285870213051353865 % 18446744073709551616:Nat):Int):=by
  show IntKind.wrap .u64 (((2 ^ tzN n:Nat):Int) * 285870213051353865)=_
  rw [wrap_u64]; omega
 refine vstepT (.int .u64 ((2 ^ tzN n * 285870213051353865 % 18446744073709551616:Nat):Int)) (fun _ h=>vop_arith (k:=.u64) (a:=((2 ^ tzN n:Nat):Int)) (b:=285870213051353865) rfl rfl (by rw [hmul]; exact h)) ?_
 have hshr:vshift .shr .u64 ((2 ^ tzN n * 285870213051353865 % 18446744073709551616:Nat):Int) 58=((2 ^ tzN n * 285870213051353865 % 18446744073709551616 / 288230376151711744:Nat):Int):=by
  show Int.fdiv _ 288230376151711744=_
  rw [Int.fdiv_eq_ediv_of_nonneg _ (by decide)]; omega
 refine vstepT (.int .u64 ((2 ^ tzN n * 285870213051353865 % 18446744073709551616 / 288230376151711744:Nat):Int)) (fun _ h=>vop_shift (k:=.u64) (k':=.u64) (a:=((2 ^ tzN n * 285870213051353865 % 18446744073709551616:Nat):Int)) (b:=58) rfl rfl (by decide) (by rw [hshr]; exact h)) ?_
 have htab:=tab_at (tzN n) (tzN_spec hz h1).1
 have hlt:2 ^ tzN n * 285870213051353865 % 18446744073709551616 / 288230376151711744 < 64:=by omega
 generalize 2 ^ tzN n * 285870213051353865 % 18446744073709551616 / 288230376151711744=k at *
 refine vstepT (.pointer (some ⟨1,0 + (k:Int).toNat * 1,some 0⟩)) (fun _ h=>vop_arr (g:=1) (o:=0) (s:=0) (b:=k) (k':=.u64) rfl rfl (by omega) h) ?_
 have hv:vpart false 1 (Go.V.t64.map fun x=>Value.int .u8 x) (0 + (k:Int).toNat * 1)=some (.int .u8 (tzN n)):=by
  show (Go.V.t64.map fun x=>Value.int .u8 x)[0 + (k:Int).toNat * 1]?=_
  rw [Int.toNat_natCast,Nat.mul_one,Nat.zero_add,List.getElem?_map,htab]; rfl
 refine vstepT (.int .u8 (tzN n)) (fun _ h=>vop_load (g:=1) (s:=0) (o:=0 + (k:Int).toNat * 1) (c:=Go.V.t64.map fun x=>Value.int .u8 x) rfl rfl (by decide) hv h) ?_
 have ht64:=(tzN_spec hz h1).1
 have hwr:IntKind.i64.wrap (tzN n:Int)=tzN n:=InK.wrap (k:=.i64) ((InK_i64 _).2 (by omega))
 refine vstepT (.int .i64 (tzN n)) (fun _ h=>vop_conv (k:=.u8) (a:=tzN n) rfl (by rw [hwr]; exact h)) ?_
 refine vstepT (.int .i64 (tzN n)) (fun _ h=>h) ?_
 exact ⟨_,_,DropTo.refl _ _ _,hK⟩
theorem ret_plain0 {P:Program} {σ:Heap} {v:SV} {u:Value} (h:SR P hNil noPl noTb v u):Ret P σ v [] u σ :=
 ⟨⟨.refl _,Dead.refl _⟩,fun _=>rfl,noPl,fun j b hj=>by simp at hj,fun j j' i hj=>by simp at hj,h⟩
theorem canH_nil0 (σ:Heap):canH σ []=σ:=by
 unfold canH
 cases σ
 simp only [List.length_nil,Nat.add_zero,List.getElem?_nil,Option.bind_none,Heap.mk.injEq,and_true]
 funext i
 split
 ·rfl
 ·rename_i wf hi; exact (wf i (by simpa using hi)).symm
theorem okC_u64 {P:Program} {f:Nat} {pre:Int→Prop} {r:Int→Int} (h:∀ x,pre x→∀ (σ:Heap) (K:Value→Heap→Prop),K (.int .i64 (r x)) σ→VCalled P f [.int .u64 x] σ K) :
  OkC P f (mkSp (.one (.k (.i .u64)):AL Int) pre (fun d=>.val (.i .i64) (r d)) (fun _=>[])):=by
 intro ap hap σ args vs c v bs hargs hs hv hbs hc
 unfold mkSp at hs
 split at hs
 ·rename_i d hd
  obtain ⟨rfl,rfl,rfl⟩:=(by simpa using hs:pre d=c∧SV.val (.i .i64) (r d)=v∧[]=bs)
  match args,hargs,hd with
  | [],_,hd=>simp [AL.dec] at hd
  | a :: x :: l,_,hd=>simp [AL.dec] at hd
  | [a],hargs,hd =>
   simp only [AL.dec] at hd
   obtain ⟨u1,vs1,rfl,s1,hargs⟩:=hargs
   have hargs:vs1=[]:=hargs
   subst hargs
   have k1:KC σ (.i .u64) d [u1]:=deck_sound (k:=.i .u64) hd ⟨u1,[],rfl,s1,rfl⟩
   have e1:u1=.int .u64 d:=by simpa [KC] using k1
   subst e1
   refine ⟨h d hc σ _ (ret_plain0 (by simp [SR,KC])),fun _ _=>h d hc σ _ ⟨?_,(canH_nil0 σ).symm⟩⟩
   simp [cval,kenc]
 ·cases hs
theorem okC_never {P:Program} {f:Nat} {D:Type} {l:AL D} {pre:D→Prop} {res:D→SV} {obs:D→List OB} (h:∀ d,pre d→False):OkC P f (mkSp l pre res obs):=by
 intro ap hap σ args vs c v bs hargs hs hv hbs hc
 unfold mkSp at hs
 split at hs
 ·rename_i d hd
  have:pre d ↔ c:=by simp at hs; exact hs.1
  exact (h d (this.2 hc)).elim
 ·cases hs
end Go.Proofs.Tryz
set_option linter.unusedVariables false
namespace Go.Proofs.Tryz
open Go Go.V Go.Proofs
def al_math_bits_TrailingZeros64:AL (Int):=(.one (.k (.i .u64)))
def pre_math_bits_TrailingZeros64 (d:Int):Prop:=0 ≤ d∧d ≤ 18446744073709551615
def res_math_bits_TrailingZeros64 (d:Int):SV:=.val (.i .i64) ((tzN d.toNat:Nat):Int)
def obs_math_bits_TrailingZeros64 (d:Int):List OB:=[]
def s_math_bits_TrailingZeros64:CSp:=mkSp al_math_bits_TrailingZeros64 pre_math_bits_TrailingZeros64 res_math_bits_TrailingZeros64 obs_math_bits_TrailingZeros64
abbrev Ok_math_bits_TrailingZeros64:Prop:=OkC Tryz.prog 101 s_math_bits_TrailingZeros64
theorem ok_math_bits_TrailingZeros64:Ok_math_bits_TrailingZeros64 :=
 okC_u64 (pre:=fun x=>0 ≤ x∧x ≤ 18446744073709551615) (r:=fun x=>((tzN x.toNat:Nat):Int)) fun x hx σ K hK =>
  tz_run (f:=101) (by rw [show czT=c101 by kernel_rfl]; exact fun101) mixed hx.1 hx.2 hK
end Go.Proofs.Tryz
set_option linter.unusedVariables false
namespace Go.Proofs.Tryz
open Go Go.V Go.Proofs
def needOk (nc ng:Int):Bool:=inI nc 0 9 && inI ng 1 12000000
def openErr (l:List Lot) (tl:Int):Int:=if lotsErr l ≠ 0 then lotsErr l else if !inI tl 0 1000 then 3 else 0
def gramsL (l:List Lot) (S:List Int):Int:=S.foldl (fun a i=>a + (l.getD i.toNat lotD).2.2) 0
def alikeP (tl:Int) (p:List Lot):Bool:=!(p.any fun x=>x.1 != (p.getD 0 lotD).1) && decide ((sprD p).2 ≤ tl)
def alikeL (l:List Lot) (tl:Int) (S:List Int):Bool:=alikeP tl (pickL l S)
theorem tz_bit {n:Nat} (h0:0 < n) (h1:n < 2 ^ 64):n.testBit (tzN n)=true:=by
 obtain ⟨_,m,hm⟩:=tzN_spec h0 h1
 generalize tzN n=t at *
 rw [hm,Nat.testBit_two_pow_mul]
 simp
theorem setK_mem:∀ f n,n ≤ f→n < 2 ^ 64→∀ i:Int,i ∈ setK f n ↔ ∃ k:Nat,i=k∧n.testBit k=true
 | 0,n,h1,_,i=>by
  have:n=0:=by omega
  subst this
  simp [setK]
 | f + 1,n,h1,h2,i=>by
  unfold setK
  by_cases h:n=0
  ·subst h; simp
  ·rw [if_neg h,List.mem_cons]
   have hle:=Nat.and_le_right (n:=n) (m:=n - 1)
   rw [setK_mem f _ (by omega) (by omega)]
   constructor
   ·rintro (e | ⟨k,e,hb⟩)
    ·exact ⟨tzN n,e,tz_bit (by omega) h2⟩
    ·rw [clear_bit (by omega) h2] at hb
     exact ⟨k,e,by simp at hb; exact hb.1⟩
   ·rintro ⟨k,e,hb⟩
    by_cases hk:k=tzN n
    ·exact .inl (by rw [e,hk])
    ·exact .inr ⟨k,e,by rw [clear_bit (by omega) h2,hb,decide_eq_false hk]; rfl⟩
theorem setL_mem {n:Nat} (h:n < 2 ^ 64) (i:Int):i ∈ setL n ↔ ∃ k:Nat,i=k∧n.testBit k=true:=setK_mem n n (Nat.le_refl _) h i
theorem setK_len:∀ f n,(setK f n).length ≤ f
 | 0,_=>by simp [setK]
 | f + 1,n=>by
  unfold setK
  split
  ·simp
  ·simp only [List.length_cons]; have:=setK_len f (n &&& (n - 1)); omega
theorem setL_len (n:Nat):(setL n).length ≤ n:=setK_len n n
theorem setL_lt {n m:Nat} (h:n < 2 ^ m) (hm:m ≤ 64):∀ i ∈ setL n,0 ≤ i∧i < (m:Int):=fun i hi=>by
 have hp:2 ^ m ≤ 2 ^ 64:=Nat.pow_le_pow_right (by omega) hm
 obtain ⟨k,rfl,hb⟩:=(setL_mem (by omega) i).1 hi
 have:k < m:=by
  rcases Nat.lt_or_ge k m with h2 | h2
  ·exact h2
  ·rw [Nat.testBit_lt_two_pow (Nat.lt_of_lt_of_le h (Nat.pow_le_pow_right (by omega) h2))] at hb; cases hb
 omega
theorem setL_ne {n:Nat} (h:0 < n):setL n ≠ []:=by rw [setL_step h]; simp
theorem grams_snoc {l:List Lot} {S:List Int} {k:Nat} (h:k < S.length):gramsL l (S.take (k + 1))=gramsL l (S.take k) + (l.getD (S.getD k 0).toNat lotD).2.2:=by
 unfold gramsL; rw [take_succ_eq h,List.foldl_append,getD_nat h]; rfl
theorem setK_nodup:∀ f n,n ≤ f→n < 2 ^ 64→(setK f n).Nodup
 | 0,n,_,_=>by simp [setK]
 | f + 1,n,h1,h2=>by
  unfold setK
  by_cases h:n=0
  ·rw [if_pos h]; exact List.nodup_nil
  ·rw [if_neg h,List.nodup_cons]
   have hle:=Nat.and_le_right (n:=n) (m:=n - 1)
   refine ⟨fun hm=>?_,setK_nodup f _ (by omega) (by omega)⟩
   obtain ⟨k,e,hb⟩:=(setK_mem f _ (by omega) (by omega) _).1 hm
   rw [clear_bit (by omega) h2] at hb
   have:k=tzN n:=by omega
   rw [decide_eq_true this] at hb
   simp at hb
theorem nodup_lenS:∀ {l m:List Int},l.Nodup→(∀ x ∈ l,x ∈ m)→l.length ≤ m.length
 | [],_,_,_=>Nat.zero_le _
 | x :: l,m,hn,hs=>by
  have hn:=List.nodup_cons.1 hn
  have hx:=hs x (List.mem_cons_self ..)
  have:=nodup_lenS (l:=l) (m:=m.erase x) hn.2 fun y hy=>(List.mem_erase_of_ne (by rintro rfl; exact hn.1 hy)).2 (hs y (List.mem_cons_of_mem _ hy))
  rw [List.length_erase_of_mem hx] at this
  have:0 < m.length:=List.length_pos_of_mem hx
  simp only [List.length_cons]; omega
theorem setL_small {n m:Nat} (h:n < 2 ^ m) (hm:m ≤ 64):(setL n).length ≤ m:=by
 have hp:2 ^ m ≤ 2 ^ 64:=Nat.pow_le_pow_right (by omega) hm
 have:=nodup_lenS (m:=(List.range m).map fun (k:Nat)=>(k:Int)) (setK_nodup n n (Nat.le_refl _) (by omega)) fun x hx=>by
  obtain ⟨h1,h2⟩:=setL_lt h hm x hx
  simp only [List.mem_map,List.mem_range]
  exact ⟨x.toNat,by omega,by omega⟩
 simpa [setL] using this
def cmpI (a b:Int):Int:=if a < b then -1 else if b < a then 1 else 0
def orI (l:List Int):Int:=(l.find? fun x=>x != 0).getD 0
def cmpL:List Int→List Int→Int
 | [],[]=>0
 | [],_ :: _=>-1
 | _ :: _,[]=>1
 | x :: a,y :: b=>if cmpI x y ≠ 0 then cmpI x y else cmpL a b
theorem cmpI_zero {a b:Int}:cmpI a b=0 ↔ a=b:=by
 unfold cmpI; split <;> (try split) <;> omega
theorem cmpL_drop {a b:List Int}:∀ k,k ≤ a.length→k ≤ b.length→(∀ j,j < k→a.getD j 0=b.getD j 0)→cmpL a b=cmpL (a.drop k) (b.drop k)
 | 0,_,_,_=>by simp
 | k + 1,h1,h2,h=>by
  rw [cmpL_drop k (by omega) (by omega) fun j hj=>h j (by omega)]
  have e:=h k (by omega)
  rw [getD_nat (by omega),getD_nat (by omega)] at e
  rw [List.drop_eq_getElem_cons (show k < a.length by omega),List.drop_eq_getElem_cons (show k < b.length by omega),cmpL,if_neg (by rw [cmpI_zero.2 e]; decide)]
def fillOk (l:List Lot) (tl nc ng:Int) (s:Nat):Bool:=((l.getD ((setL s).getD 0 0).toNat lotD).1 == nc) && decide (ng ≤ gramsL l (setL s)) && alikeL l tl (setL s)
def lessF (a b:List Int):Bool:=decide (orI [cmpI a.length b.length,cmpL a b] < 0)
def fillK (l:List Lot) (tl nc ng:Int):Nat→List Int
 | 0=>[]
 | s + 1=>if s=0 then [] else if fillOk l tl nc ng s && ((fillK l tl nc ng s).isEmpty || lessF (setL s) (fillK l tl nc ng s)) then setL s else fillK l tl nc ng s
theorem fillK_len {l:List Lot} {tl nc ng:Int} (hl:l.length ≤ 64):∀ s,s ≤ 2 ^ l.length→(fillK l tl nc ng s).length ≤ l.length
 | 0,_=>by simp [fillK]
 | s + 1,h=>by
  unfold fillK
  split
  ·simp
  ·split
   ·exact setL_small (by omega) hl
   ·exact fillK_len hl s (by omega)
theorem fillOk_eq (l:List Lot) (tl nc ng:Int) (s:Nat):((((l.getD ((setL s).getD 0 0).toNat lotD).1 != nc) || decide (gramsL l (setL s) < ng)) || !alikeL l tl (setL s))=!fillOk l tl nc ng s:=by
 unfold fillOk
 rw [Bool.eq_iff_iff]
 simp only [Bool.or_eq_true,bne_iff_ne,decide_eq_true_eq,Bool.not_eq_true',Bool.and_eq_false_iff,beq_eq_false_iff_ne,decide_eq_false_iff_not,ne_eq]
 constructor
 ·rintro ((h | h) | h)
  ·exact .inl (.inl h)
  ·exact .inl (.inr (by omega))
  ·exact .inr h
 ·rintro ((h | h) | h)
  ·exact .inl (.inl h)
  ·exact .inl (.inr (by omega))
  ·exact .inr h
def al_math_bits_TrailingZeros32:AL (Int):=(.one (.k (.i .u32)))
def pre_math_bits_TrailingZeros32 (d:Int):Prop:=False
def res_math_bits_TrailingZeros32 (d:Int):SV:=.val (.i .i64) ((tzN d.toNat:Nat):Int)
def obs_math_bits_TrailingZeros32 (d:Int):List OB:=[]
def s_math_bits_TrailingZeros32:CSp:=mkSp al_math_bits_TrailingZeros32 pre_math_bits_TrailingZeros32 res_math_bits_TrailingZeros32 obs_math_bits_TrailingZeros32
abbrev Ok_math_bits_TrailingZeros32:Prop:=OkC Tryz.prog 100 s_math_bits_TrailingZeros32
theorem ok_math_bits_TrailingZeros32:Ok_math_bits_TrailingZeros32:=okC_never fun _ h=>h
def al_math_bits_TrailingZeros:AL (Int):=(.one (.k (.i .u64)))
def pre_math_bits_TrailingZeros (d:Int):Prop:=0 ≤ d∧d ≤ 18446744073709551615
def res_math_bits_TrailingZeros (d:Int):SV:=.val (.i .i64) ((tzN d.toNat:Nat):Int)
def obs_math_bits_TrailingZeros (d:Int):List OB:=[]
def s_math_bits_TrailingZeros:CSp:=mkSp al_math_bits_TrailingZeros pre_math_bits_TrailingZeros res_math_bits_TrailingZeros obs_math_bits_TrailingZeros
def vc_math_bits_TrailingZeros (x:Int):Prop :=
 (false=true →
  (InK .u32 x)∧(False)∧(((tzN x.toNat:Nat):Int)=((tzN x.toNat:Nat):Int)∧(True))) ∧
 (false=false →
  (0 ≤ x∧x ≤ 18446744073709551615)∧(((tzN x.toNat:Nat):Int)=((tzN x.toNat:Nat):Int)∧(True)))
def cx_math_bits_TrailingZeros:Cx:=⟨[],[(100,s_math_bits_TrailingZeros32),(101,s_math_bits_TrailingZeros64)],8,[],0,[],[],[],[],false,[],[],[]⟩
def lp_math_bits_TrailingZeros (x:Int):List (Nat × LoopAnn):=[]
set_option maxRecDepth 100000 in
theorem vq_math_bits_TrailingZeros (d:Int):gwp (cx_math_bits_TrailingZeros) (lp_math_bits_TrailingZeros d) c83 0 (gend [.tmp 2] (res_math_bits_TrailingZeros d) (obs_math_bits_TrailingZeros d)) (gstart 8 (AL.can al_math_bits_TrailingZeros d))=vc_math_bits_TrailingZeros d:=by kernel_rfl
abbrev Ok_math_bits_TrailingZeros:Prop:=OkC Tryz.prog 83 s_math_bits_TrailingZeros
theorem mk_math_bits_TrailingZeros (h:∀ (x:Int),(0 ≤ x∧x ≤ 18446744073709551615)→vc_math_bits_TrailingZeros x):OkC Tryz.prog 83 s_math_bits_TrailingZeros :=
 okC_vc fun83 mixed (C:=cx_math_bits_TrailingZeros) (V:=fun (d:Int)=>vc_math_bits_TrailingZeros d) ⟨(.cons ok_math_bits_TrailingZeros32 (.cons ok_math_bits_TrailingZeros64 .nil)),XsOk.nil,ItsOk.nil,YlOk.nil,IysOk.nil⟩ (vq_math_bits_TrailingZeros) fun d hp=>h d hp
theorem ok_math_bits_TrailingZeros:Ok_math_bits_TrailingZeros:=mk_math_bits_TrailingZeros fun x h=>by
 unfold vc_math_bits_TrailingZeros; (try delta lI gD sT I64)
 refine ⟨(fun h=>by cases h),fun _=>⟨h,?_⟩⟩
 and_intros <;> first | rfl | trivial
def al_shade_set_all:AL (Int):=(.one (.k (.i .u64)))
def pre_shade_set_all (d:Int):Prop:=0 ≤ d∧d ≤ 1048576
def res_shade_set_all (d:Int):SV:=.lst 0
def obs_shade_set_all (d:Int):List OB:=[.lst 3 (.i .i64) (setL d.toNat) ((setL d.toNat).isEmpty)]
def s_shade_set_all:CSp:=mkSp al_shade_set_all pre_shade_set_all res_shade_set_all obs_shade_set_all
def vc_shade_set_all (x:Int):Prop :=
 ∃ (e3:Unit) (d30:Int × (List Int)),((x=d30.1∧True∧True)∧((d30.2=[]∧(List.isEmpty d30.2)=true)∧True)) ∧
 LoopP (fun (d3:Int × (List Int)) (q3:(Int × (List Int))→Prop) =>
  ((d3.1 != (0:Int))=true →
   (0 ≤ d3.1∧d3.1 ≤ 18446744073709551615)∧(((List.length d3.2) + (List.length [((tzN d3.1.toNat:Nat):Int)])) * 8 ≤ 70368744177664)∧(InK .u64 (d3.1 - (1:Int)))∧(∃ d4:Int × (List Int),(((vbits .and .u64 d3.1 (d3.1 - (1:Int)))=d4.1∧True∧True)∧(((d3.2++[((tzN d3.1.toNat:Nat):Int)])=d4.2∧false=(List.isEmpty d4.2))∧True))∧q3 d4)) ∧
  ((d3.1 != (0:Int))=false →
   (True∧((d3.2=(setL x.toNat)∧(List.isEmpty d3.2)=(setL x.toNat).isEmpty)∧True)))) d30
def cx_shade_set_all:Cx:=⟨[(3,(.i .i64))],[(83,s_math_bits_TrailingZeros)],15,[],0,[],[],[],[],false,[],[],[]⟩
def lp_shade_set_all (x:Int):List (Nat × LoopAnn):=[(0,⟨Unit,Int × (List Int),[0,2],fun e x=>[.val (.i .u64) x.1,.lst 13],fun e x=>[(13,.slot 2,.lst 3 (.i .i64) x.2 (List.isEmpty x.2))]⟩)]
set_option maxRecDepth 100000 in
theorem vq_shade_set_all (d:Int):gwp (cx_shade_set_all) (lp_shade_set_all d) c56 0 (gend [.tmp 2] (res_shade_set_all d) (obs_shade_set_all d)) (gstart 15 (AL.can al_shade_set_all d))=vc_shade_set_all d:=by kernel_rfl
abbrev Ok_shade_set_all:Prop:=OkC Tryz.prog 56 s_shade_set_all
theorem mk_shade_set_all (h:∀ (x:Int),(0 ≤ x∧x ≤ 1048576)→vc_shade_set_all x):OkC Tryz.prog 56 s_shade_set_all :=
 okC_vc fun56 mixed (C:=cx_shade_set_all) (V:=fun (d:Int)=>vc_shade_set_all d) ⟨(.cons ok_math_bits_TrailingZeros .nil),XsOk.nil,ItsOk.nil,YlOk.nil,IysOk.nil⟩ (vq_shade_set_all) fun d hp=>h d hp
theorem ok_shade_set_all:Ok_shade_set_all:=mk_shade_set_all fun x h=>by
 obtain ⟨h1,h2⟩:=h
 unfold vc_shade_set_all; (try delta lI gD sT I64)
 obtain ⟨n,rfl⟩:=Int.eq_ofNat_of_zero_le h1
 rw [Int.toNat_natCast]
 have hln:=setL_len n
 refine ⟨(),((n:Int),[]),(by and_intros <;> first | rfl | trivial | simp),?_⟩
 refine ⟨fun d=>∃ s:Nat,d.1=s∧s ≤ n∧d.2++setL s=setL n,fun d=>d.1.toNat,⟨n,rfl,Nat.le_refl _,rfl⟩,?_⟩
 rintro ⟨_,L⟩ ⟨s,rfl,i1,i2⟩
 dsimp only at i2 ⊢
 simp only [bne_iff_ne,bne_eq_false_iff_eq,ne_eq,Int.toNat_natCast]
 refine ⟨fun h0=>?_,fun h0=>?_⟩
 ·have hs:0 < s:=by omega
  have e1:(s:Int) - 1=((s - 1:Nat):Int):=by omega
  have hst:=setL_step hs
  have hll:L.length + 1 ≤ n:=by
   have:=congrArg List.length i2
   rw [hst,List.length_append,List.length_cons] at this; omega
  have hle:=Nat.and_le_right (n:=s) (m:=s - 1)
  refine ⟨⟨by omega,by omega⟩,by simp only [List.length_cons,List.length_nil]; omega,by rw [InK_u64]; omega,(((s &&& (s - 1):Nat):Int),L++[((tzN s:Nat):Int)]),?_,⟨s &&& (s - 1),rfl,by omega,?_⟩,?_⟩
  ·rw [e1,vand_u64 (by omega) (by omega)]
   have:(L++[((tzN s:Nat):Int)]).isEmpty=false:=by simp
   and_intros <;> first | rfl | trivial | exact this.symm
  ·dsimp only
   rw [←i2,hst,List.append_assoc]; rfl
  ·dsimp only; omega
 ·have:s=0:=by omega
  subst this
  rw [setL_zero,List.append_nil] at i2
  subst i2
  and_intros <;> first | rfl | trivial
def al_shade_isNeed:AL (Int × Int):=(.one (.agg (.cons (.k (.i .i64)) (.one (.k (.i .i64))))))
def pre_shade_isNeed (d:Int × Int):Prop:=True
def res_shade_isNeed (d:Int × Int):SV:=.val .bo (needOk d.1 d.2)
def obs_shade_isNeed (d:Int × Int):List OB:=[]
def s_shade_isNeed:CSp:=mkSp al_shade_isNeed pre_shade_isNeed res_shade_isNeed obs_shade_isNeed
def vc_shade_isNeed (nc:Int) (ng:Int):Prop :=
 ([nc].length ≤ 1000000)∧((!([nc].any fun n=>decide (n < (0:Int)) || decide ((9:Int) < n)))=true→True)∧((!([nc].any fun n=>decide (n < (0:Int)) || decide ((9:Int) < n)))=true→[ng].length ≤ 1000000)∧(((!([nc].any fun n=>decide (n < (0:Int)) || decide ((9:Int) < n))) && (!([ng].any fun n=>decide (n < (1:Int)) || decide ((12000000:Int) < n))))=(needOk nc ng)∧(True))
def cx_shade_isNeed:Cx:=⟨[(3,(.i .i64))],[(61,s_shade_within)],13,[],0,[],[],[],[],false,[],[],[]⟩
def lp_shade_isNeed (nc:Int) (ng:Int):List (Nat × LoopAnn):=[]
set_option maxRecDepth 100000 in
theorem vq_shade_isNeed (d:Int × Int):gwp (cx_shade_isNeed) (lp_shade_isNeed d.1 d.2) c52 0 (gend [.tmp 2] (res_shade_isNeed d) (obs_shade_isNeed d)) (gstart 13 (AL.can al_shade_isNeed d))=vc_shade_isNeed d.1 d.2:=by kernel_rfl
abbrev Ok_shade_isNeed:Prop:=OkC Tryz.prog 52 s_shade_isNeed
theorem mk_shade_isNeed (h:∀ (nc:Int) (ng:Int),(True)→vc_shade_isNeed nc ng):OkC Tryz.prog 52 s_shade_isNeed :=
 okC_vc fun52 mixed (C:=cx_shade_isNeed) (V:=fun (d:Int × Int)=>vc_shade_isNeed d.1 d.2) ⟨(.cons ok_shade_within .nil),XsOk.nil,ItsOk.nil,YlOk.nil,IysOk.nil⟩ (vq_shade_isNeed) fun d hp=>h d.1 d.2 hp
theorem ok_shade_isNeed:Ok_shade_isNeed:=mk_shade_isNeed fun nc ng _=>by
 unfold vc_shade_isNeed; (try delta lI gD sT I64)
 have e:∀ n a b:Int,(decide (n < a) || decide (b < n))=!inI n a b:=fun n a b=>(nI n a b).symm
 simp only [List.any_cons,List.any_nil,Bool.or_false,e,Bool.not_not,List.length_cons,List.length_nil]
 refine ⟨by omega,fun _=>trivial,fun _=>by omega,?_⟩
 and_intros <;> first | rfl | trivial
def al_shade_store_grams:AL (((List (Int × (Int × Int) × Int)) × Int) × Int):=(.cons (.agg (.cons (.k (.list (.pair (.i .i64) (.pair (.pair (.i .i64) (.i .i64)) (.i .i64))))) (.one (.k (.i .i64))))) (.one (.k (.i .u64))))
def pre_shade_store_grams (d:((List (Int × (Int × Int) × Int)) × Int) × Int):Prop:=d.1.1.length ≤ 12∧(∀ y ∈ d.1.1,lotOk y=true)∧0 ≤ d.2∧d.2 < 2 ^ d.1.1.length
def res_shade_store_grams (d:((List (Int × (Int × Int) × Int)) × Int) × Int):SV:=.val (.i .i64) (gramsL d.1.1 (setL d.2.toNat))
def obs_shade_store_grams (d:((List (Int × (Int × Int) × Int)) × Int) × Int):List OB:=[]
def s_shade_store_grams:CSp:=mkSp al_shade_store_grams pre_shade_store_grams res_shade_store_grams obs_shade_store_grams
def vc_shade_store_grams (l:List (Int × (Int × Int) × Int)) (tl:Int) (sx:Int):Prop :=
 (0 ≤ sx∧sx ≤ 1048576)∧∃ (e3:Unit) (d30:Int × Int),((True∧(0:Int)=d30.1∧True∧(lI (setL sx.toNat))=(lI (setL sx.toNat))∧(0:Int)=d30.2∧True)∧((l=l∧tl=tl∧(([]:List SV)=[]))∧((setL sx.toNat)=(setL sx.toNat)∧(setL sx.toNat).isEmpty=(List.isEmpty (setL sx.toNat)))∧True)) ∧
 LoopP (fun (d3:Int × Int) (q3:(Int × Int)→Prop) =>
  ((decide (d3.2 < (lI (setL sx.toNat))))=true →
   (0 ≤ d3.2)∧(d3.2 < (List.length (setL sx.toNat)))∧(0 ≤ (gD (setL sx.toNat) d3.2 0))∧((gD (setL sx.toNat) d3.2 0) < (List.length l))∧(I64 (d3.1 + (gD l (gD (setL sx.toNat) d3.2 0) (0,((0,0),0))).2.2))∧(I64 (d3.2 + (1:Int)))∧(∃ d4:Int × Int,((True∧(d3.1 + (gD l (gD (setL sx.toNat) d3.2 0) (0,((0,0),0))).2.2)=d4.1∧True∧(lI (setL sx.toNat))=(lI (setL sx.toNat))∧(d3.2 + (1:Int))=d4.2∧True)∧((l=l∧tl=tl∧(([]:List SV)=[]))∧((setL sx.toNat)=(setL sx.toNat)∧(List.isEmpty (setL sx.toNat))=(List.isEmpty (setL sx.toNat)))∧True))∧q3 d4)) ∧
  ((decide (d3.2 < (lI (setL sx.toNat))))=false →
   (d3.1=(gramsL l (setL sx.toNat))∧(True)))) d30
def cx_shade_store_grams:Cx:=⟨[],[(56,s_shade_set_all)],24,[],0,[],[],[],[],false,[],[],[]⟩
def lp_shade_store_grams (l:List (Int × (Int × Int) × Int)) (tl:Int) (sx:Int):List (Nat × LoopAnn):=[(0,⟨Unit,Int × Int,[2,4,8,9,10],fun e x=>[.box 2 0,.val (.i .i64) x.1,.lst 8,.val (.i .i64) (((List.length (setL sx.toNat)):Nat):Int),.val (.i .i64) x.2],fun e x=>[(2,.slot 2,.cells [.val (.list (.pair (.i .i64) (.pair (.pair (.i .i64) (.i .i64)) (.i .i64)))) l,.val (.i .i64) tl] (some 105)),(8,.slot 8,.lst 3 (.i .i64) (setL sx.toNat) (List.isEmpty (setL sx.toNat)))]⟩)]
set_option maxRecDepth 100000 in
theorem vq_shade_store_grams (d:((List (Int × (Int × Int) × Int)) × Int) × Int):gwp (cx_shade_store_grams) (lp_shade_store_grams d.1.1 d.1.2 d.2) c78 0 (gend [.tmp 4] (res_shade_store_grams d) (obs_shade_store_grams d)) (gstart 24 (AL.can al_shade_store_grams d))=vc_shade_store_grams d.1.1 d.1.2 d.2:=by kernel_rfl
abbrev Ok_shade_store_grams:Prop:=OkC Tryz.prog 78 s_shade_store_grams
theorem mk_shade_store_grams (h:∀ (l:List (Int × (Int × Int) × Int)) (tl:Int) (sx:Int),(l.length ≤ 12∧(∀ y ∈ l,lotOk y=true)∧0 ≤ sx∧sx < 2 ^ l.length)→vc_shade_store_grams l tl sx):OkC Tryz.prog 78 s_shade_store_grams :=
 okC_vc fun78 mixed (C:=cx_shade_store_grams) (V:=fun (d:((List (Int × (Int × Int) × Int)) × Int) × Int)=>vc_shade_store_grams d.1.1 d.1.2 d.2) ⟨(.cons ok_shade_set_all .nil),XsOk.nil,ItsOk.nil,YlOk.nil,IysOk.nil⟩ (vq_shade_store_grams) fun d hp=>h d.1.1 d.1.2 d.2 hp
theorem ok_shade_store_grams:Ok_shade_store_grams:=mk_shade_store_grams fun l tl sx h=>by
 obtain ⟨h1,h2,h3,h4⟩:=h
 obtain ⟨n,rfl⟩:=Int.eq_ofNat_of_zero_le h3
 have hp:(2:Int) ^ l.length=((2 ^ l.length:Nat):Int):=by simp
 have hp2:2 ^ l.length ≤ 2 ^ 12:=Nat.pow_le_pow_right (by omega) h1
 have h12:(2:Nat) ^ 12=4096:=rfl
 rw [hp] at h4
 have hn:n < 2 ^ l.length:=by omega
 unfold vc_shade_store_grams; (try delta lI gD sT I64)
 rw [Int.toNat_natCast]
 have hlt:=setL_lt hn (by omega)
 have hln:=setL_len n
 generalize setL n=S at *
 simp only [decide_eq_true_eq,decide_eq_false_iff_not]
 refine ⟨⟨by omega,by omega⟩,(),(0,0),(by and_intros <;> first | rfl | trivial | simp),?_⟩
 refine LoopP.count2 S.length (fun k a=>a=gramsL l (S.take k)∧0 ≤ a∧a ≤ 1000000 * (k:Int)) ⟨rfl,by omega,by omega⟩ fun k a hk hJ q hq=>?_
 obtain ⟨rfl,j2,j3⟩:=hJ
 dsimp only
 have hd:∀ j,l.getD j (0,((0,0),0))=l.getD j lotD:=fun _=>rfl
 simp only [Int.toNat_natCast,hd]
 refine ⟨fun hlt2=>?_,fun hge=>?_⟩
 ·have hkS:k < S.length:=by omega
  have hm:=hlt _ (by rw [getD_nat hkS]; exact List.getElem_mem hkS:S.getD k 0 ∈ S)
  have hj:(S.getD k 0).toNat < l.length:=by omega
  have hg:=lotOk_iff.1 (h2 _ (List.getElem_mem hj))
  have hgr:1 ≤ (l.getD (S.getD k 0).toNat lotD).2.2∧(l.getD (S.getD k 0).toNat lotD).2.2 ≤ 1000000:=by rw [getD_nat hj]; omega
  have hs:=grams_snoc (l:=l) hkS
  refine ⟨by omega,hlt2,hm.1,hm.2,by rw [InK_i64]; omega,by rw [InK_i64]; omega,(gramsL l (S.take k) + (l.getD (S.getD k 0).toNat lotD).2.2,(k:Int) + 1),(by and_intros <;> first | rfl | trivial | simp),hq _ hkS ⟨hs.symm,by omega,by omega⟩⟩
 ·have:k=S.length:=by omega
  subst this
  rw [List.take_length]
  and_intros <;> first | rfl | trivial
end Go.Proofs.Tryz
set_option linter.unusedVariables false
namespace Go.Proofs.Tryz
open Go Go.V Go.Proofs
def al_shade_store_alike_1:AL ((Int × Int × Int × Int) × List (Int × (Int × Int) × Int)):=(.cons (.agg (.cons (.k (.i .i64)) (.cons (.k (.i .i64)) (.cons (.k (.i .i64)) (.one (.k (.i .i64))))))) (.one (.ptr (.one (.k (.list (.pair (.i .i64) (.pair (.pair (.i .i64) (.i .i64)) (.i .i64)))))))))
def pre_shade_store_alike_1 (d:(Int × Int × Int × Int) × List (Int × (Int × Int) × Int)):Prop:=d.2 ≠ []
def res_shade_store_alike_1 (d:(Int × Int × Int × Int) × List (Int × (Int × Int) × Int)):SV:=.val .bo (d.1.1 != (d.2.getD 0 lotD).1)
def obs_shade_store_alike_1 (d:(Int × Int × Int × Int) × List (Int × (Int × Int) × Int)):List OB:=[]
def s_shade_store_alike_1:CSp:=mkSp al_shade_store_alike_1 pre_shade_store_alike_1 res_shade_store_alike_1 obs_shade_store_alike_1
def vc_shade_store_alike_1 (lc:Int) (lo:Int) (hi:Int) (lg:Int) (l:List (Int × (Int × Int) × Int)):Prop :=
 (0 ≤ (0:Int))∧((0:Int) < (List.length l))∧((lc != (gD l (0:Int) (0,((0,0),0))).1)=(lc != (l.getD 0 lotD).1)∧(True))
def cx_shade_store_alike_1:Cx:=⟨[],[],11,[],0,[],[],[],[],false,[],[],[]⟩
def lp_shade_store_alike_1 (lc:Int) (lo:Int) (hi:Int) (lg:Int) (l:List (Int × (Int × Int) × Int)):List (Nat × LoopAnn):=[]
set_option maxRecDepth 100000 in
theorem vq_shade_store_alike_1 (d:(Int × Int × Int × Int) × List (Int × (Int × Int) × Int)):gwp (cx_shade_store_alike_1) (lp_shade_store_alike_1 d.1.1 d.1.2.1 d.1.2.2.1 d.1.2.2.2 d.2) c98 0 (gend [.tmp 3] (res_shade_store_alike_1 d) (obs_shade_store_alike_1 d)) (gstart 11 (AL.can al_shade_store_alike_1 d))=vc_shade_store_alike_1 d.1.1 d.1.2.1 d.1.2.2.1 d.1.2.2.2 d.2:=by kernel_rfl
abbrev Ok_shade_store_alike_1:Prop:=OkC Tryz.prog 98 s_shade_store_alike_1
theorem mk_shade_store_alike_1 (h:∀ (lc:Int) (lo:Int) (hi:Int) (lg:Int) (l:List (Int × (Int × Int) × Int)),(l ≠ [])→vc_shade_store_alike_1 lc lo hi lg l):OkC Tryz.prog 98 s_shade_store_alike_1 :=
 okC_vc fun98 mixed (C:=cx_shade_store_alike_1) (V:=fun (d:(Int × Int × Int × Int) × List (Int × (Int × Int) × Int))=>vc_shade_store_alike_1 d.1.1 d.1.2.1 d.1.2.2.1 d.1.2.2.2 d.2) ⟨.nil,XsOk.nil,ItsOk.nil,YlOk.nil,IysOk.nil⟩ (vq_shade_store_alike_1) fun d hp=>h d.1.1 d.1.2.1 d.1.2.2.1 d.1.2.2.2 d.2 hp
theorem ok_shade_store_alike_1:Ok_shade_store_alike_1:=mk_shade_store_alike_1 fun lc lo hi lg l h=>by
 unfold vc_shade_store_alike_1; (try delta lI gD sT I64)
 have hp:0 < l.length:=List.length_pos_iff.2 h
 refine ⟨by omega,by omega,?_⟩
 and_intros <;> first | rfl | trivial
def al_shade_store_alike:AL (((List (Int × (Int × Int) × Int)) × Int) × Int):=(.cons (.agg (.cons (.k (.list (.pair (.i .i64) (.pair (.pair (.i .i64) (.i .i64)) (.i .i64))))) (.one (.k (.i .i64))))) (.one (.k (.i .u64))))
def pre_shade_store_alike (d:((List (Int × (Int × Int) × Int)) × Int) × Int):Prop:=d.1.1.length ≤ 12∧(∀ y ∈ d.1.1,lotOk y=true)∧0 < d.2∧d.2 < 2 ^ d.1.1.length
def res_shade_store_alike (d:((List (Int × (Int × Int) × Int)) × Int) × Int):SV:=.val .bo (alikeL d.1.1 d.1.2 (setL d.2.toNat))
def obs_shade_store_alike (d:((List (Int × (Int × Int) × Int)) × Int) × Int):List OB:=[]
def s_shade_store_alike:CSp:=mkSp al_shade_store_alike pre_shade_store_alike res_shade_store_alike obs_shade_store_alike
def vc_shade_store_alike (l:List (Int × (Int × Int) × Int)) (tl:Int) (sx:Int):Prop :=
 (0 ≤ sx∧sx ≤ 1048576)∧∃ (e4:Unit) (d40:(List (Int × (Int × Int) × Int)) × Int),((True∧True∧True∧(lI (setL sx.toNat))=(lI (setL sx.toNat))∧(0:Int)=d40.2∧True)∧((l=l∧tl=tl∧(([]:List SV)=[]))∧(True∧(([]:List SV)=[]))∧(d40.1=[]∧(List.isEmpty d40.1)=true)∧((setL sx.toNat)=(setL sx.toNat)∧(setL sx.toNat).isEmpty=(List.isEmpty (setL sx.toNat)))∧True)) ∧
 LoopP (fun (d4:(List (Int × (Int × Int) × Int)) × Int) (q4:((List (Int × (Int × Int) × Int)) × Int)→Prop) =>
  ((decide (d4.2 < (lI (setL sx.toNat))))=true →
   (0 ≤ d4.2)∧(d4.2 < (List.length (setL sx.toNat)))∧(0 ≤ (gD (setL sx.toNat) d4.2 0))∧((gD (setL sx.toNat) d4.2 0) < (List.length l))∧(((List.length d4.1) + (List.length [((gD l (gD (setL sx.toNat) d4.2 0) (0,((0,0),0))).1,(((gD l (gD (setL sx.toNat) d4.2 0) (0,((0,0),0))).2.1.1,(gD l (gD (setL sx.toNat) d4.2 0) (0,((0,0),0))).2.1.2),(gD l (gD (setL sx.toNat) d4.2 0) (0,((0,0),0))).2.2))])) * 32 ≤ 70368744177664)∧(I64 (d4.2 + (1:Int)))∧(∃ d5:(List (Int × (Int × Int) × Int)) × Int,((True∧True∧True∧(lI (setL sx.toNat))=(lI (setL sx.toNat))∧(d4.2 + (1:Int))=d5.2∧True)∧((l=l∧tl=tl∧(([]:List SV)=[]))∧(True∧(([]:List SV)=[]))∧((d4.1++[((gD l (gD (setL sx.toNat) d4.2 0) (0,((0,0),0))).1,(((gD l (gD (setL sx.toNat) d4.2 0) (0,((0,0),0))).2.1.1,(gD l (gD (setL sx.toNat) d4.2 0) (0,((0,0),0))).2.1.2),(gD l (gD (setL sx.toNat) d4.2 0) (0,((0,0),0))).2.2))])=d5.1∧false=(List.isEmpty d5.1))∧((setL sx.toNat)=(setL sx.toNat)∧(List.isEmpty (setL sx.toNat))=(List.isEmpty (setL sx.toNat)))∧True))∧q4 d5)) ∧
  ((decide (d4.2 < (lI (setL sx.toNat))))=false →
   (d4.1.length ≤ 1000000∧∀ x ∈ d4.1,(fun (x1:Int × (Int × Int) × Int)=>d4.1 ≠ []) x)∧((!(d4.1.any (fun (x1:Int × (Int × Int) × Int)=>(x1.1 != (d4.1.getD 0 lotD).1))))=true→d4.1 ≠ []∧d4.1.length ≤ 1000∧∀ x ∈ d4.1,lotOk x=true)∧(((!(d4.1.any (fun (x1:Int × (Int × Int) × Int)=>(x1.1 != (d4.1.getD 0 lotD).1)))) && (decide (((sprD d4.1).2) ≤ tl)))=(alikeL l tl (setL sx.toNat))∧(True)))) d40
def cx_shade_store_alike:Cx:=⟨[(78,(.pair (.i .i64) (.pair (.pair (.i .i64) (.i .i64)) (.i .i64))))],[(56,s_shade_set_all),(90,s_slices_ContainsFunc_api_ShadeLot_api_ShadeLot),(98,s_shade_store_alike_1),(70,s_shade_spread)],38,[],0,[],[],[],[],false,[],[],[]⟩
def lp_shade_store_alike (l:List (Int × (Int × Int) × Int)) (tl:Int) (sx:Int):List (Nat × LoopAnn):=[(0,⟨Unit,(List (Int × (Int × Int) × Int)) × Int,[2,5,10,11,12],fun e x=>[.box 2 0,.box 5 0,.lst 10,.val (.i .i64) (((List.length (setL sx.toNat)):Nat):Int),.val (.i .i64) x.2],fun e x=>[(2,.slot 2,.cells [.val (.list (.pair (.i .i64) (.pair (.pair (.i .i64) (.i .i64)) (.i .i64)))) l,.val (.i .i64) tl] (some 105)),(5,.slot 5,.cells [.lst 23] (some 22)),(23,.cell 5 0,.lst 78 (.pair (.i .i64) (.pair (.pair (.i .i64) (.i .i64)) (.i .i64))) x.1 (List.isEmpty x.1)),(10,.slot 10,.lst 3 (.i .i64) (setL sx.toNat) (List.isEmpty (setL sx.toNat)))]⟩)]
set_option maxRecDepth 100000 in
theorem vq_shade_store_alike (d:((List (Int × (Int × Int) × Int)) × Int) × Int):gwp (cx_shade_store_alike) (lp_shade_store_alike d.1.1 d.1.2 d.2) c79 0 (gend [.tmp 4] (res_shade_store_alike d) (obs_shade_store_alike d)) (gstart 38 (AL.can al_shade_store_alike d))=vc_shade_store_alike d.1.1 d.1.2 d.2:=by kernel_rfl
abbrev Ok_shade_store_alike:Prop:=OkC Tryz.prog 79 s_shade_store_alike
theorem mk_shade_store_alike (h:∀ (l:List (Int × (Int × Int) × Int)) (tl:Int) (sx:Int),(l.length ≤ 12∧(∀ y ∈ l,lotOk y=true)∧0 < sx∧sx < 2 ^ l.length)→vc_shade_store_alike l tl sx):OkC Tryz.prog 79 s_shade_store_alike :=
 okC_vc fun79 mixed (C:=cx_shade_store_alike) (V:=fun (d:((List (Int × (Int × Int) × Int)) × Int) × Int)=>vc_shade_store_alike d.1.1 d.1.2 d.2) ⟨(.cons ok_shade_set_all (.cons ok_slices_ContainsFunc_api_ShadeLot_api_ShadeLot (.cons ok_shade_store_alike_1 (.cons ok_shade_spread .nil)))),XsOk.nil,ItsOk.nil,YlOk.nil,IysOk.nil⟩ (vq_shade_store_alike) fun d hp=>h d.1.1 d.1.2 d.2 hp
end Go.Proofs.Tryz
set_option linter.unusedVariables false
namespace Go.Proofs.Tryz
open Go Go.V Go.Proofs
theorem ok_shade_store_alike:Ok_shade_store_alike:=mk_shade_store_alike fun l tl sx h=>by
 obtain ⟨h1,h2,h3,h4⟩:=h
 obtain ⟨n,rfl⟩:=Int.eq_ofNat_of_zero_le (show 0 ≤ sx by omega)
 have hp:(2:Int) ^ l.length=((2 ^ l.length:Nat):Int):=by simp
 have hp2:2 ^ l.length ≤ 2 ^ 12:=Nat.pow_le_pow_right (by omega) h1
 have h12:(2:Nat) ^ 12=4096:=rfl
 rw [hp] at h4
 have hn:n < 2 ^ l.length:=by omega
 unfold vc_shade_store_alike; (try delta lI gD sT I64)
 rw [Int.toNat_natCast]
 have hlt:=setL_lt hn (by omega)
 have hln:=setL_small hn (by omega)
 have hne:=setL_ne (show 0 < n by omega)
 generalize setL n=S at *
 have hpne:pickL l S ≠ []:=by simpa [pickL] using hne
 have hpok:=pickL_ok h2 hlt
 have hpl:∀ k,(pickL l (S.take k)).length=min k S.length:=fun k=>by simp [pickL]
 simp only [decide_eq_true_eq,decide_eq_false_iff_not]
 refine ⟨⟨by omega,by omega⟩,(),([],0),(by and_intros <;> first | rfl | trivial | simp),?_⟩
 refine LoopP.count2 S.length (fun k L=>L=pickL l (S.take k)) rfl fun k L hk hJ q hq=>?_
 subst hJ
 dsimp only
 have hd:∀ j,l.getD j (0,((0,0),0))=l.getD j lotD:=fun _=>rfl
 simp only [Int.toNat_natCast,hd]
 refine ⟨fun hlt2=>?_,fun hge=>?_⟩
 ·have hkS:k < S.length:=by omega
  have hm:=hlt _ (by rw [getD_nat hkS]; exact List.getElem_mem hkS:S.getD k 0 ∈ S)
  refine ⟨by omega,hlt2,hm.1,hm.2,by simp only [hpl,List.length_cons,List.length_nil]; omega,by rw [InK_i64]; omega,(pickL l (S.take (k + 1)),(k:Int) + 1),?_,hq _ hkS rfl⟩
  rw [pickL_snoc hkS]
  have:((pickL l (S.take k)++[l.getD (S.getD k 0).toNat lotD]).isEmpty)=false:=by simp
  and_intros <;> first | rfl | trivial | exact this.symm
 ·have:k=S.length:=by omega
  subst this
  have hl0:=hpl S.length
  rw [List.take_length] at *
  refine ⟨⟨by omega,fun _ _=>hpne⟩,fun _=>⟨hpne,by omega,hpok⟩,?_⟩
  and_intros <;> first | rfl | trivial
end Go.Proofs.Tryz
set_option linter.unusedVariables false
namespace Go.Proofs.Tryz
open Go Go.V Go.Proofs
def al_cmp_isNaN_int:AL (Int):=(.one (.k (.i .i64)))
def pre_cmp_isNaN_int (d:Int):Prop:=True
def res_cmp_isNaN_int (d:Int):SV:=.val .bo false
def obs_cmp_isNaN_int (d:Int):List OB:=[]
def s_cmp_isNaN_int:CSp:=mkSp al_cmp_isNaN_int pre_cmp_isNaN_int res_cmp_isNaN_int obs_cmp_isNaN_int
def vc_cmp_isNaN_int (a:Int):Prop :=
 ((a != a)=false∧(True))
def cx_cmp_isNaN_int:Cx:=⟨[],[],6,[],0,[],[],[],[],false,[],[],[]⟩
def lp_cmp_isNaN_int (a:Int):List (Nat × LoopAnn):=[]
set_option maxRecDepth 100000 in
theorem vq_cmp_isNaN_int (d:Int):gwp (cx_cmp_isNaN_int) (lp_cmp_isNaN_int d) c99 0 (gend [.tmp 2] (res_cmp_isNaN_int d) (obs_cmp_isNaN_int d)) (gstart 6 (AL.can al_cmp_isNaN_int d))=vc_cmp_isNaN_int d:=by kernel_rfl
abbrev Ok_cmp_isNaN_int:Prop:=OkC Tryz.prog 99 s_cmp_isNaN_int
theorem mk_cmp_isNaN_int (h:∀ (a:Int),(True)→vc_cmp_isNaN_int a):OkC Tryz.prog 99 s_cmp_isNaN_int :=
 okC_vc fun99 mixed (C:=cx_cmp_isNaN_int) (V:=fun (d:Int)=>vc_cmp_isNaN_int d) ⟨.nil,XsOk.nil,ItsOk.nil,YlOk.nil,IysOk.nil⟩ (vq_cmp_isNaN_int) fun d hp=>h d hp
theorem ok_cmp_isNaN_int:Ok_cmp_isNaN_int:=mk_cmp_isNaN_int fun a _=>by
 unfold vc_cmp_isNaN_int; (try delta lI gD sT I64)
 simp
def al_cmp_Compare_int:AL (Int × Int):=(.cons (.k (.i .i64)) (.one (.k (.i .i64))))
def pre_cmp_Compare_int (d:Int × Int):Prop:=True
def res_cmp_Compare_int (d:Int × Int):SV:=.val (.i .i64) (cmpI d.1 d.2)
def obs_cmp_Compare_int (d:Int × Int):List OB:=[]
def s_cmp_Compare_int:CSp:=mkSp al_cmp_Compare_int pre_cmp_Compare_int res_cmp_Compare_int obs_cmp_Compare_int
def vc_cmp_Compare_int (a:Int) (b:Int):Prop :=
 (True)∧(True)∧(false=true →
  (false=true →
   ((0:Int)=(cmpI a b)∧(True))) ∧
  (false=false →
   ((-1:Int)=(cmpI a b)∧(True)))) ∧
 (false=false →
  (false=true →
   ((1:Int)=(cmpI a b)∧(True))) ∧
  (false=false →
   ((decide (a < b))=true →
    ((-1:Int)=(cmpI a b)∧(True))) ∧
   ((decide (a < b))=false →
    ((decide (a > b))=true →
     ((1:Int)=(cmpI a b)∧(True))) ∧
    ((decide (a > b))=false →
     ((0:Int)=(cmpI a b)∧(True))))))
def cx_cmp_Compare_int:Cx:=⟨[],[(99,s_cmp_isNaN_int)],20,[],0,[],[],[],[],false,[],[],[]⟩
def lp_cmp_Compare_int (a:Int) (b:Int):List (Nat × LoopAnn):=[]
set_option maxRecDepth 100000 in
theorem vq_cmp_Compare_int (d:Int × Int):gwp (cx_cmp_Compare_int) (lp_cmp_Compare_int d.1 d.2) c81 0 (gend [.tmp 4] (res_cmp_Compare_int d) (obs_cmp_Compare_int d)) (gstart 20 (AL.can al_cmp_Compare_int d))=vc_cmp_Compare_int d.1 d.2:=by kernel_rfl
abbrev Ok_cmp_Compare_int:Prop:=OkC Tryz.prog 81 s_cmp_Compare_int
theorem mk_cmp_Compare_int (h:∀ (a:Int) (b:Int),(True)→vc_cmp_Compare_int a b):OkC Tryz.prog 81 s_cmp_Compare_int :=
 okC_vc fun81 mixed (C:=cx_cmp_Compare_int) (V:=fun (d:Int × Int)=>vc_cmp_Compare_int d.1 d.2) ⟨(.cons ok_cmp_isNaN_int .nil),XsOk.nil,ItsOk.nil,YlOk.nil,IysOk.nil⟩ (vq_cmp_Compare_int) fun d hp=>h d.1 d.2 hp
theorem ok_cmp_Compare_int:Ok_cmp_Compare_int:=mk_cmp_Compare_int fun a b _=>by
 unfold vc_cmp_Compare_int; (try delta lI gD sT I64)
 simp only [decide_eq_true_eq,decide_eq_false_iff_not,true_and,and_true,decide_eq_true_eq,decide_eq_false_iff_not,gt_iff_lt,false_implies,Bool.false_eq_true,forall_const]
 unfold cmpI
 refine ⟨fun h=>?_,fun h=>⟨fun h2=>?_,fun h2=>?_⟩⟩
 ·rw [if_pos h]
 ·rw [if_neg h,if_pos h2]
 ·rw [if_neg h,if_neg h2]
def al_cmp_Or_int:AL (List Int):=(.one (.k (.list (.i .i64))))
def pre_cmp_Or_int (d:List Int):Prop:=d.length ≤ 1000
def res_cmp_Or_int (d:List Int):SV:=.val (.i .i64) (orI d)
def obs_cmp_Or_int (d:List Int):List OB:=[]
def s_cmp_Or_int:CSp:=mkSp al_cmp_Or_int pre_cmp_Or_int res_cmp_Or_int obs_cmp_Or_int
def vc_cmp_Or_int (l:List Int):Prop :=
 ∃ (e2:Unit) (d20:Int),(((0:Int)=(0:Int)∧l=l∧(lI l)=(lI l)∧(0:Int)=d20∧True)∧(True)) ∧
 LoopP (fun (d2:Int) (q2:(Int)→Prop) =>
  ((decide (d2 < (lI l)))=true →
   (0 ≤ d2)∧(d2 < (List.length l))∧(((gD l d2 0) != (0:Int))=true →
    ((gD l d2 0)=(orI l)∧(True))) ∧
   (((gD l d2 0) != (0:Int))=false →
    (I64 (d2 + (1:Int)))∧(∃ d3:Int,(((0:Int)=(0:Int)∧l=l∧(lI l)=(lI l)∧(d2 + (1:Int))=d3∧True)∧(True))∧q2 d3))) ∧
  ((decide (d2 < (lI l)))=false →
   ((0:Int)=(orI l)∧(True)))) d20
def cx_cmp_Or_int:Cx:=⟨[],[],18,[],0,[],[],[],[],false,[],[],[]⟩
def lp_cmp_Or_int (l:List Int):List (Nat × LoopAnn):=[(0,⟨Unit,Int,[3,6,7,8],fun e x=>[.val (.i .i64) (0:Int),.val (.list (.i .i64)) l,.val (.i .i64) (((List.length l):Nat):Int),.val (.i .i64) x],fun e x=>[]⟩)]
set_option maxRecDepth 100000 in
theorem vq_cmp_Or_int (d:List Int):gwp (cx_cmp_Or_int) (lp_cmp_Or_int d) c80 0 (gend [.tmp 2] (res_cmp_Or_int d) (obs_cmp_Or_int d)) (gstart 18 (AL.can al_cmp_Or_int d))=vc_cmp_Or_int d:=by kernel_rfl
abbrev Ok_cmp_Or_int:Prop:=OkC Tryz.prog 80 s_cmp_Or_int
theorem mk_cmp_Or_int (h:∀ (l:List Int),(l.length ≤ 1000)→vc_cmp_Or_int l):OkC Tryz.prog 80 s_cmp_Or_int :=
 okC_vc fun80 mixed (C:=cx_cmp_Or_int) (V:=fun (d:List Int)=>vc_cmp_Or_int d) ⟨.nil,XsOk.nil,ItsOk.nil,YlOk.nil,IysOk.nil⟩ (vq_cmp_Or_int) fun d hp=>h d hp
theorem ok_cmp_Or_int:Ok_cmp_Or_int:=mk_cmp_Or_int fun l h=>by
 unfold vc_cmp_Or_int; (try delta lI gD sT I64)
 simp only [decide_eq_true_eq,decide_eq_false_iff_not]
 refine ⟨(),0,(by and_intros <;> first | rfl | trivial | simp),?_⟩
 refine LoopP.count l.length (fun k=>∀ j,j < k→l.getD j 0=0) (fun j hj=>by omega) fun k hk hJ q hq=>?_
 simp only [Int.toNat_natCast]
 refine ⟨fun hlt=>?_,fun hge=>?_⟩
 ·have hkl:k < l.length:=by omega
  refine ⟨by omega,hlt,fun hx=>?_,fun hx=>⟨by rw [InK_i64]; omega,_,(by and_intros <;> first | rfl | trivial | simp),hq hkl fun j hj=>?_⟩⟩
  ·have hf:l.find? (fun x=>x != 0)=some l[k]:=by
    rw [List.find?_eq_some_iff_getElem]
    rw [getD_nat hkl] at hx
    refine ⟨hx,k,hkl,rfl,fun j hj=>?_⟩
    have:=hJ j hj
    rw [getD_nat (by omega)] at this
    simp [this]
   refine ⟨?_,trivial⟩
   unfold orI; rw [hf,getD_nat hkl]; rfl
  ·rcases Nat.lt_succ_iff_lt_or_eq.1 hj with hj | rfl
   ·exact hJ j hj
   ·simpa using hx
 ·have hf:l.find? (fun x=>x != 0)=none:=by
   rw [List.find?_eq_none]
   intro x hx
   obtain ⟨j,hj,rfl⟩:=List.getElem_of_mem hx
   have:=hJ j (by omega)
   rw [getD_nat hj] at this
   simp [this]
  refine ⟨?_,trivial⟩
  unfold orI; rw [hf]; rfl
def al_slices_Compare_int_int:AL (List Int × List Int):=(.cons (.k (.list (.i .i64))) (.one (.k (.list (.i .i64)))))
def pre_slices_Compare_int_int (d:List Int × List Int):Prop:=d.1.length ≤ 1000∧d.2.length ≤ 1000
def res_slices_Compare_int_int (d:List Int × List Int):SV:=.val (.i .i64) (cmpL d.1 d.2)
def obs_slices_Compare_int_int (d:List Int × List Int):List OB:=[]
def s_slices_Compare_int_int:CSp:=mkSp al_slices_Compare_int_int pre_slices_Compare_int_int res_slices_Compare_int_int obs_slices_Compare_int_int
def vc_slices_Compare_int_int (a:List Int) (b:List Int):Prop :=
 ∃ (e2:Unit) (d20:Int),((a=a∧b=b∧a=a∧(lI a)=(lI a)∧(0:Int)=d20∧True)∧(True)) ∧
 LoopP (fun (d2:Int) (q2:(Int)→Prop) =>
  ((decide (d2 < (lI a)))=true →
   (0 ≤ d2)∧(d2 < (List.length a))∧((decide (d2 ≥ (lI b)))=true →
    ((1:Int)=(cmpL a b)∧(True))) ∧
   ((decide (d2 ≥ (lI b)))=false →
    (0 ≤ d2)∧(d2 < (List.length b))∧(True)∧(((cmpI (gD a d2 0) (gD b d2 0)) != (0:Int))=true →
     ((cmpI (gD a d2 0) (gD b d2 0))=(cmpL a b)∧(True))) ∧
    (((cmpI (gD a d2 0) (gD b d2 0)) != (0:Int))=false →
     (I64 (d2 + (1:Int)))∧(∃ d3:Int,((a=a∧b=b∧a=a∧(lI a)=(lI a)∧(d2 + (1:Int))=d3∧True)∧(True))∧q2 d3)))) ∧
  ((decide (d2 < (lI a)))=false →
   ((decide ((lI a) < (lI b)))=true →
    ((-1:Int)=(cmpL a b)∧(True))) ∧
   ((decide ((lI a) < (lI b)))=false →
    ((0:Int)=(cmpL a b)∧(True))))) d20
def cx_slices_Compare_int_int:Cx:=⟨[],[(81,s_cmp_Compare_int)],36,[],0,[],[],[],[],false,[],[],[]⟩
def lp_slices_Compare_int_int (a:List Int) (b:List Int):List (Nat × LoopAnn):=[(0,⟨Unit,Int,[0,1,9,10,11],fun e x=>[.val (.list (.i .i64)) a,.val (.list (.i .i64)) b,.val (.list (.i .i64)) a,.val (.i .i64) (((List.length a):Nat):Int),.val (.i .i64) x],fun e x=>[]⟩)]
set_option maxRecDepth 100000 in
theorem vq_slices_Compare_int_int (d:List Int × List Int):gwp (cx_slices_Compare_int_int) (lp_slices_Compare_int_int d.1 d.2) c82 0 (gend [.tmp 4] (res_slices_Compare_int_int d) (obs_slices_Compare_int_int d)) (gstart 36 (AL.can al_slices_Compare_int_int d))=vc_slices_Compare_int_int d.1 d.2:=by kernel_rfl
abbrev Ok_slices_Compare_int_int:Prop:=OkC Tryz.prog 82 s_slices_Compare_int_int
theorem mk_slices_Compare_int_int (h:∀ (a:List Int) (b:List Int),(a.length ≤ 1000∧b.length ≤ 1000)→vc_slices_Compare_int_int a b):OkC Tryz.prog 82 s_slices_Compare_int_int :=
 okC_vc fun82 mixed (C:=cx_slices_Compare_int_int) (V:=fun (d:List Int × List Int)=>vc_slices_Compare_int_int d.1 d.2) ⟨(.cons ok_cmp_Compare_int .nil),XsOk.nil,ItsOk.nil,YlOk.nil,IysOk.nil⟩ (vq_slices_Compare_int_int) fun d hp=>h d.1 d.2 hp
theorem ok_slices_Compare_int_int:Ok_slices_Compare_int_int:=mk_slices_Compare_int_int fun a b h=>by
 obtain ⟨h1,h2⟩:=h
 unfold vc_slices_Compare_int_int; (try delta lI gD sT I64)
 simp only [decide_eq_true_eq,decide_eq_false_iff_not]
 refine ⟨(),0,(by and_intros <;> first | rfl | trivial | simp),?_⟩
 refine LoopP.count a.length (fun k=>k ≤ b.length∧∀ j,j < k→a.getD j 0=b.getD j 0) ⟨by omega,fun j hj=>by omega⟩ fun k hk hJ q hq=>?_
 obtain ⟨j1,j2⟩:=hJ
 have hc:=cmpL_drop k hk j1 j2
 simp only [Int.toNat_natCast]
 refine ⟨fun hlt=>?_,fun hge=>?_⟩
 ·have hkl:k < a.length:=by omega
  rw [List.drop_eq_getElem_cons hkl] at hc
  refine ⟨by omega,hlt,fun h3=>?_,fun h3=>?_⟩
  ·rw [List.drop_eq_nil_of_le (show b.length ≤ k by omega)] at hc
   rw [hc]; exact ⟨rfl,trivial⟩
  ·have hkb:k < b.length:=by omega
   rw [List.drop_eq_getElem_cons hkb,cmpL] at hc
   rw [getD_nat hkl,getD_nat hkb]
   refine ⟨by omega,by omega,trivial,fun hx=>?_,fun hx=>⟨by rw [InK_i64]; omega,_,(by and_intros <;> first | rfl | trivial | simp),hq hkl ⟨by omega,fun j hj=>?_⟩⟩⟩
   ·have hx:cmpI a[k] b[k] ≠ 0:=by simpa using hx
    rw [hc,if_pos hx]; exact ⟨rfl,trivial⟩
   ·rcases Nat.lt_succ_iff_lt_or_eq.1 hj with hj | rfl
    ·exact j2 j hj
    ·rw [getD_nat hkl,getD_nat hkb]
     exact cmpI_zero.1 (by simpa using hx)
 ·have:k=a.length:=by omega
  subst this
  rw [List.drop_length] at hc
  refine ⟨fun h3=>?_,fun h3=>?_⟩
  ·rw [List.drop_eq_getElem_cons (show a.length < b.length by omega)] at hc
   rw [hc]; exact ⟨rfl,trivial⟩
  ·rw [List.drop_eq_nil_of_le (show b.length ≤ a.length by omega)] at hc
   rw [hc]; exact ⟨rfl,trivial⟩
end Go.Proofs.Tryz
set_option linter.unusedVariables false
namespace Go.Proofs.Tryz
open Go Go.V Go.Proofs
def al_shade_store_fill:AL (((List (Int × (Int × Int) × Int)) × Int) × Int × Int):=(.cons (.agg (.cons (.k (.list (.pair (.i .i64) (.pair (.pair (.i .i64) (.i .i64)) (.i .i64))))) (.one (.k (.i .i64))))) (.one (.agg (.cons (.k (.i .i64)) (.one (.k (.i .i64)))))))
def pre_shade_store_fill (d:((List (Int × (Int × Int) × Int)) × Int) × Int × Int):Prop:=d.1.1.length ≤ 12∧(∀ y ∈ d.1.1,lotOk y=true)
def res_shade_store_fill (d:((List (Int × (Int × Int) × Int)) × Int) × Int × Int):SV:=.tup [.lst 0,.val (.i .i64) (if (fillK d.1.1 d.1.2 d.2.1 d.2.2 (2 ^ d.1.1.length)).isEmpty then 7 else 0)]
def obs_shade_store_fill (d:((List (Int × (Int × Int) × Int)) × Int) × Int × Int):List OB:=[.lst 3 (.i .i64) (fillK d.1.1 d.1.2 d.2.1 d.2.2 (2 ^ d.1.1.length)) ((fillK d.1.1 d.1.2 d.2.1 d.2.2 (2 ^ d.1.1.length)).isEmpty)]
def s_shade_store_fill:CSp:=mkSp al_shade_store_fill pre_shade_store_fill res_shade_store_fill obs_shade_store_fill
def vc_shade_store_fill (l:List (Int × (Int × Int) × Int)) (tl:Int) (nc:Int) (ng:Int):Prop :=
 ∃ (e4:Unit) (d40:(List Int) × Int),((True∧True∧True∧(1:Int)=d40.2∧True)∧((l=l∧tl=tl∧(([]:List SV)=[]))∧(nc=nc∧ng=ng∧(([]:List SV)=[]))∧(d40.1=[]∧(List.isEmpty d40.1)=true)∧True)) ∧
 LoopP (fun (d4:(List Int) × Int) (q4:((List Int) × Int)→Prop) =>
  (0 ≤ (lI l))∧(InK .u64 (shlI .u64 (1:Int) (lI l)))∧((decide (d4.2 < (shlI .u64 (1:Int) (lI l))))=true →
   (0 ≤ d4.2∧d4.2 ≤ 1048576)∧(0 ≤ (0:Int))∧((0:Int) < (List.length (setL d4.2.toNat)))∧(0 ≤ (gD (setL d4.2.toNat) (0:Int) 0))∧((gD (setL d4.2.toNat) (0:Int) 0) < (List.length l))∧(((gD l (gD (setL d4.2.toNat) (0:Int) 0) (0,((0,0),0))).1 != nc)=false→l.length ≤ 12∧(∀ y ∈ l,lotOk y=true)∧0 ≤ d4.2∧d4.2 < 2 ^ l.length)∧((((gD l (gD (setL d4.2.toNat) (0:Int) 0) (0,((0,0),0))).1 != nc) || (decide ((gramsL l (setL d4.2.toNat)) < ng)))=false→l.length ≤ 12∧(∀ y ∈ l,lotOk y=true)∧0 < d4.2∧d4.2 < 2 ^ l.length)∧(((((gD l (gD (setL d4.2.toNat) (0:Int) 0) (0,((0,0),0))).1 != nc) || (decide ((gramsL l (setL d4.2.toNat)) < ng))) || (!(alikeL l tl (setL d4.2.toNat))))=true →
    (InK .u64 (d4.2 + (1:Int)))∧(∃ d5:(List Int) × Int,((True∧True∧True∧(d4.2 + (1:Int))=d5.2∧True)∧((l=l∧tl=tl∧(([]:List SV)=[]))∧(nc=nc∧ng=ng∧(([]:List SV)=[]))∧(d4.1=d5.1∧(List.isEmpty d4.1)=(List.isEmpty d5.1))∧True))∧q4 d5)) ∧
   (((((gD l (gD (setL d4.2.toNat) (0:Int) 0) (0,((0,0),0))).1 != nc) || (decide ((gramsL l (setL d4.2.toNat)) < ng))) || (!(alikeL l tl (setL d4.2.toNat))))=false →
    ((List.isEmpty d4.1)=false→True)∧((List.isEmpty d4.1)=false→(setL d4.2.toNat).length ≤ 1000∧d4.1.length ≤ 1000)∧((List.isEmpty d4.1)=false→True)∧((List.isEmpty d4.1)=false→[(cmpI (lI (setL d4.2.toNat)) (lI d4.1)),(cmpL (setL d4.2.toNat) d4.1)].length ≤ 1000)∧(((List.isEmpty d4.1) || (decide ((orI [(cmpI (lI (setL d4.2.toNat)) (lI d4.1)),(cmpL (setL d4.2.toNat) d4.1)]) < (0:Int))))=true →
     (InK .u64 (d4.2 + (1:Int)))∧(∃ d6:(List Int) × Int,((True∧True∧True∧(d4.2 + (1:Int))=d6.2∧True)∧((l=l∧tl=tl∧(([]:List SV)=[]))∧(nc=nc∧ng=ng∧(([]:List SV)=[]))∧((setL d4.2.toNat)=d6.1∧(setL d4.2.toNat).isEmpty=(List.isEmpty d6.1))∧True))∧q4 d6)) ∧
    (((List.isEmpty d4.1) || (decide ((orI [(cmpI (lI (setL d4.2.toNat)) (lI d4.1)),(cmpL (setL d4.2.toNat) d4.1)]) < (0:Int))))=false →
     (InK .u64 (d4.2 + (1:Int)))∧(∃ d7:(List Int) × Int,((True∧True∧True∧(d4.2 + (1:Int))=d7.2∧True)∧((l=l∧tl=tl∧(([]:List SV)=[]))∧(nc=nc∧ng=ng∧(([]:List SV)=[]))∧(d4.1=d7.1∧(List.isEmpty d4.1)=(List.isEmpty d7.1))∧True))∧q4 d7)))) ∧
  ((decide (d4.2 < (shlI .u64 (1:Int) (lI l))))=false →
   ((List.isEmpty d4.1)=true →
    ((True∧(7:Int)=(if (fillK l tl nc ng (2 ^ l.length)).isEmpty then 7 else 0)∧(([]:List SV)=[]))∧(((fillK l tl nc ng (2 ^ l.length))=[]∧(fillK l tl nc ng (2 ^ l.length)).isEmpty=true)∧True))) ∧
   ((List.isEmpty d4.1)=false →
    ((True∧(0:Int)=(if (fillK l tl nc ng (2 ^ l.length)).isEmpty then 7 else 0)∧(([]:List SV)=[]))∧((d4.1=(fillK l tl nc ng (2 ^ l.length))∧(List.isEmpty d4.1)=(fillK l tl nc ng (2 ^ l.length)).isEmpty)∧True))))) d40
def cx_shade_store_fill:Cx:=⟨[(3,(.i .i64))],[(56,s_shade_set_all),(78,s_shade_store_grams),(79,s_shade_store_alike),(81,s_cmp_Compare_int),(82,s_slices_Compare_int_int),(80,s_cmp_Or_int)],62,[],0,[],[],[],[],false,[],[],[]⟩
def lp_shade_store_fill (l:List (Int × (Int × Int) × Int)) (tl:Int) (nc:Int) (ng:Int):List (Nat × LoopAnn):=[(0,⟨Unit,(List Int) × Int,[2,3,4,6],fun e x=>[.box 2 0,.box 3 0,.lst 6000004,.val (.i .u64) x.2],fun e x=>[(2,.slot 2,.cells [.val (.list (.pair (.i .i64) (.pair (.pair (.i .i64) (.i .i64)) (.i .i64)))) l,.val (.i .i64) tl] (some 105)),(3,.slot 3,.cells [.val (.i .i64) nc,.val (.i .i64) ng] (some 41)),(6000004,.slot 4,.lst 3 (.i .i64) x.1 (List.isEmpty x.1))]⟩)]
set_option maxRecDepth 100000 in
theorem vq_shade_store_fill (d:((List (Int × (Int × Int) × Int)) × Int) × Int × Int):gwp (cx_shade_store_fill) (lp_shade_store_fill d.1.1 d.1.2 d.2.1 d.2.2) c53 0 (gend [.tmp 4,.tmp 5] (res_shade_store_fill d) (obs_shade_store_fill d)) (gstart 62 (AL.can al_shade_store_fill d))=vc_shade_store_fill d.1.1 d.1.2 d.2.1 d.2.2:=by kernel_rfl
abbrev Ok_shade_store_fill:Prop:=OkC Tryz.prog 53 s_shade_store_fill
theorem mk_shade_store_fill (h:∀ (l:List (Int × (Int × Int) × Int)) (tl:Int) (nc:Int) (ng:Int),(l.length ≤ 12∧(∀ y ∈ l,lotOk y=true))→vc_shade_store_fill l tl nc ng):OkC Tryz.prog 53 s_shade_store_fill :=
 okC_vc fun53 mixed (C:=cx_shade_store_fill) (V:=fun (d:((List (Int × (Int × Int) × Int)) × Int) × Int × Int)=>vc_shade_store_fill d.1.1 d.1.2 d.2.1 d.2.2) ⟨(.cons ok_shade_set_all (.cons ok_shade_store_grams (.cons ok_shade_store_alike (.cons ok_cmp_Compare_int (.cons ok_slices_Compare_int_int (.cons ok_cmp_Or_int .nil)))))),XsOk.nil,ItsOk.nil,YlOk.nil,IysOk.nil⟩ (vq_shade_store_fill) fun d hp=>h d.1.1 d.1.2 d.2.1 d.2.2 hp
end Go.Proofs.Tryz
set_option linter.unusedVariables false
namespace Go.Proofs.Tryz
open Go Go.V Go.Proofs
theorem ok_shade_store_fill:Ok_shade_store_fill:=mk_shade_store_fill fun l tl nc ng h=>by
 obtain ⟨h1,h2⟩:=h
 have hp2:2 ^ l.length ≤ 2 ^ 12:=Nat.pow_le_pow_right (by omega) h1
 have h12:(2:Nat) ^ 12=4096:=rfl
 have hp0:0 < 2 ^ l.length:=Nat.two_pow_pos _
 have hpi:(2:Int) ^ l.length=((2 ^ l.length:Nat):Int):=by simp
 unfold vc_shade_store_fill; (try delta lI gD sT I64)
 have hsh:shlI .u64 1 (l.length:Int)=((2 ^ l.length:Nat):Int):=by
  unfold shlI
  rw [Int.toNat_natCast,show Nat.min l.length (IntKind.bits .u64)=l.length from Nat.min_eq_left (show l.length ≤ 64 by omega),Int.one_mul]; exact hpi
 have hd:∀ j,l.getD j (0,((0,0),0))=l.getD j lotD:=fun _=>rfl
 simp only [hsh,decide_eq_true_eq,decide_eq_false_iff_not,hd]
 refine ⟨(),([],1),(by and_intros <;> first | rfl | trivial | simp),?_⟩
 refine ⟨fun d=>∃ s:Nat,d.2=s∧1 ≤ s∧s ≤ 2 ^ l.length∧d.1=fillK l tl nc ng s,fun d=>2 ^ l.length - d.2.toNat,⟨1,rfl,by omega,by omega,rfl⟩,?_⟩
 rintro ⟨_,_⟩ ⟨s,rfl,i1,i2,rfl⟩
 dsimp only
 have hfl:=fillK_len (tl:=tl) (nc:=nc) (ng:=ng) (show l.length ≤ 64 by omega) s i2
 have hK:fillK l tl nc ng (s + 1)=if fillOk l tl nc ng s && ((fillK l tl nc ng s).isEmpty || lessF (setL s) (fillK l tl nc ng s)) then setL s else fillK l tl nc ng s:=by
  conv=>lhs; unfold fillK
  rw [if_neg (by omega)]
 simp only [Int.toNat_natCast]
 refine ⟨by omega,by rw [InK_u64]; omega,fun hlt=>?_,fun hge=>?_⟩
 ·have hs:s < 2 ^ l.length:=by omega
  have hSl:=setL_small hs (show l.length ≤ 64 by omega)
  have hSn:=setL_ne (show 0 < s by omega)
  have hS0:0 < (setL s).length:=List.length_pos_iff.2 hSn
  have hm:=setL_lt hs (show l.length ≤ 64 by omega) _ (by rw [getD_nat hS0]; exact List.getElem_mem hS0:(setL s).getD 0 0 ∈ setL s)
  have hz:((0:Int)).toNat=0:=rfl
  simp only [hz,fillOk_eq]
  have hlf:(decide (orI [cmpI ((setL s).length:Int) ((fillK l tl nc ng s).length:Int),cmpL (setL s) (fillK l tl nc ng s)] < 0))=lessF (setL s) (fillK l tl nc ng s):=rfl
  rw [hlf]
  have hsi:(s:Int) < 2 ^ l.length:=by rw [hpi]; omega
  have nx:∀ b:List Int,b=fillK l tl nc ng (s + 1)→(∃ s',((s:Int) + 1)=((s':Nat):Int)∧1 ≤ s'∧s' ≤ 2 ^ l.length∧b=fillK l tl nc ng s'):=fun b hb=>⟨s + 1,by omega,by omega,by omega,hb⟩
  refine ⟨⟨by omega,by omega⟩,by omega,by omega,hm.1,hm.2,fun _=>⟨h1,h2,by omega,hsi⟩,fun _=>⟨h1,h2,by omega,hsi⟩,fun hx=>⟨by rw [InK_u64]; omega,(fillK l tl nc ng s,(s:Int) + 1),(by and_intros <;> first | rfl | trivial | simp),nx _ ?_,by dsimp only; omega⟩,fun hx=>⟨fun _=>trivial,fun _=>⟨by omega,by omega⟩,fun _=>trivial,fun _=>by simp,fun hy=>⟨by rw [InK_u64]; omega,(setL s,(s:Int) + 1),(by and_intros <;> first | rfl | trivial | simp),nx _ ?_,by dsimp only; omega⟩,fun hy=>⟨by rw [InK_u64]; omega,(fillK l tl nc ng s,(s:Int) + 1),(by and_intros <;> first | rfl | trivial | simp),nx _ ?_,by dsimp only; omega⟩⟩⟩
  ·have hx:fillOk l tl nc ng s=false:=by simpa using hx
   rw [hK,hx,Bool.false_and,if_neg (by decide)]
  ·have hx:fillOk l tl nc ng s=true:=by simpa using hx
   rw [hK,hx,hy]; rfl
  ·have hx:fillOk l tl nc ng s=true:=by simpa using hx
   rw [hK,hx,hy,Bool.and_false,if_neg (by decide)]
 ·have:s=2 ^ l.length:=by omega
  subst this
  refine ⟨fun he=>?_,fun he=>?_⟩
  ·rw [he]
   have:=List.isEmpty_iff.1 he
   rw [this]
   exact (by and_intros <;> first | rfl | trivial | simp)
  ·rw [he]
   exact (by and_intros <;> first | rfl | trivial | simp)
end Go.Proofs.Tryz
set_option linter.unusedVariables false
namespace Go.Proofs.Tryz
open Go Go.V Go.Proofs
def cx_shade_open:Cx:=⟨[(3,(.i .i64))],[(69,s_shade_Check),(61,s_shade_within)],21,[],0,[],[],[],[],false,[],[],[]⟩
def x_shade_open:XSp:=inlX cx_shade_open (fun _=>[]) c51 [.cell 4 true 2,.tmp 5] 21
theorem okx_shade_open:XOk Tryz.prog 51 x_shade_open:=inlX_ok fun51 mixed (C:=cx_shade_open) ⟨(.cons ok_shade_Check (.cons ok_shade_within .nil)),XsOk.nil,ItsOk.nil,YlOk.nil,IysOk.nil⟩ _
theorem open_zero {l:List Lot} {tl:Int} (h:openErr l tl=0):lotsErr l=0∧0 ≤ tl∧tl ≤ 1000:=by
 unfold openErr at h
 by_cases h1:lotsErr l=0
 ·rw [if_neg (by omega)] at h
  refine ⟨h1,?_⟩
  by_cases h2:inI tl 0 1000=true
  ·simp only [inI,Bool.and_eq_true,decide_eq_true_eq] at h2; exact h2
  ·rw [Bool.not_eq_true] at h2; rw [h2] at h; cases h
 ·rw [if_pos h1] at h; exact (h1 h).elim
theorem dead3:((3:Int) != 0)=true:=rfl
end Go.Proofs.Tryz
set_option linter.unusedVariables false
namespace Go.Proofs.Tryz
open Go Go.V Go.Proofs
def chosenK (n m:Nat):List Int:=((List.range m).filter fun k=>n.testBit k).map fun (k:Nat)=>(k:Int)
theorem sorted_extS:∀ {a b:List Int},a.Pairwise (· < ·)→b.Pairwise (· < ·)→(∀ x,x ∈ a ↔ x ∈ b)→a=b
 | [],[],_,_,_=>rfl
 | [],y :: b,_,_,h=>by have:=(h y).2 (List.mem_cons_self ..); cases this
 | x :: a,[],_,_,h=>by have:=(h x).1 (List.mem_cons_self ..); cases this
 | x :: a,y :: b,ha,hb,h=>by
  obtain ⟨ha1,ha2⟩:=List.pairwise_cons.1 ha
  obtain ⟨hb1,hb2⟩:=List.pairwise_cons.1 hb
  have hxy:x=y:=by
   rcases List.mem_cons.1 ((h x).1 (List.mem_cons_self ..)) with e | e
   ·exact e
   ·rcases List.mem_cons.1 ((h y).2 (List.mem_cons_self ..)) with e2 | e2
    ·exact e2.symm
    ·have h1:=hb1 x e; have h2:=ha1 y e2; omega
  subst hxy
  rw [sorted_extS ha2 hb2 fun z=>?_]
  constructor
  ·intro hz
   rcases List.mem_cons.1 ((h z).1 (List.mem_cons_of_mem _ hz)) with e | e
   ·have:=ha1 z hz; omega
   ·exact e
  ·intro hz
   rcases List.mem_cons.1 ((h z).2 (List.mem_cons_of_mem _ hz)) with e | e
   ·have:=hb1 z hz; omega
   ·exact e
theorem tz_low {n k:Nat} (h0:0 < n) (h1:n < 2 ^ 64) (hk:n.testBit k=true):tzN n ≤ k:=by
 obtain ⟨_,m,hm⟩:=tzN_spec h0 h1
 generalize tzN n=t at *
 rcases Nat.lt_or_ge k t with h | h
 ·rw [hm,Nat.testBit_two_pow_mul,decide_eq_false (show ¬ k ≥ t by omega)] at hk; cases hk
 ·exact h
theorem setK_sorted:∀ f n,n ≤ f→n < 2 ^ 64→(setK f n).Pairwise (· < ·)
 | 0,n,_,_=>by simp [setK]
 | f + 1,n,h1,h2=>by
  unfold setK
  by_cases h:n=0
  ·rw [if_pos h]; exact List.Pairwise.nil
  ·rw [if_neg h,List.pairwise_cons]
   have hle:=Nat.and_le_right (n:=n) (m:=n - 1)
   refine ⟨fun i hm=>?_,setK_sorted f _ (by omega) (by omega)⟩
   obtain ⟨k,rfl,hb⟩:=(setK_mem f _ (by omega) (by omega) _).1 hm
   rw [clear_bit (by omega) h2] at hb
   simp only [Bool.and_eq_true,Bool.not_eq_true',decide_eq_false_iff_not] at hb
   have:=tz_low (by omega) h2 hb.1
   omega
theorem setL_chosen {n m:Nat} (h:n < 2 ^ m) (hm:m ≤ 64):setL n=chosenK n m:=by
 have hp:2 ^ m ≤ 2 ^ 64:=Nat.pow_le_pow_right (by omega) hm
 refine sorted_extS (setK_sorted n n (Nat.le_refl _) (by omega)) ?_ fun x=>?_
 ·unfold chosenK
  rw [List.pairwise_map]
  exact (List.Pairwise.filter _ List.pairwise_lt_range).imp fun h=>by omega
 ·rw [setL_mem (by omega)]
  simp only [chosenK,List.mem_map,List.mem_filter,List.mem_range]
  constructor
  ·rintro ⟨k,rfl,hb⟩
   have:k < m:=by
    rcases Nat.lt_or_ge k m with h2 | h2
    ·exact h2
    ·rw [Nat.testBit_lt_two_pow (Nat.lt_of_lt_of_le h (Nat.pow_le_pow_right (by omega) h2))] at hb; cases hb
   exact ⟨k,⟨this,hb⟩,rfl⟩
  ·rintro ⟨k,⟨_,hb⟩,rfl⟩
   exact ⟨k,rfl,hb⟩
def pairB (a b:Lot) (t:Int):Bool:=(a.1 == b.1) && decide (farL a b ≤ t) && decide (farL a a ≤ t) && decide (farL b b ≤ t)
def alikeR (p:List Lot) (t:Int):Bool:=(List.range p.length).all fun i=>(List.range p.length).all fun k=>pairB (p.getD i lotD) (p.getD k lotD) t
theorem alikeR_iff {p:List Lot} {t:Int}:alikeR p t=true ↔ ∀ i,i < p.length→∀ k,k < p.length→(p.getD i lotD).1=(p.getD k lotD).1∧farL (p.getD i lotD) (p.getD k lotD) ≤ t:=by
 simp only [alikeR,List.all_eq_true,List.mem_range,pairB,Bool.and_eq_true,beq_iff_eq,decide_eq_true_eq]
 exact ⟨fun h i hi k hk=>⟨(h i hi k hk).1.1.1,(h i hi k hk).1.1.2⟩,fun h i hi k hk=>⟨⟨⟨(h i hi k hk).1,(h i hi k hk).2⟩,(h i hi i hi).2⟩,(h k hk k hk).2⟩⟩
theorem alike_law {p:List Lot} {t:Int} (h:p ≠ []):alikeP t p=alikeR p t:=by
 have hp:1 ≤ p.length:=List.length_pos_iff.2 h
 obtain ⟨a,_,_,⟨i3,b3,c3⟩,⟨i4,b4,c4⟩⟩:=sprF_spec h p.length hp (Nat.le_refl _)
 rw [Bool.eq_iff_iff,alikeR_iff]
 unfold alikeP sprD
 simp only [Bool.and_eq_true,Bool.not_eq_true',decide_eq_true_eq,List.any_eq_false,bne_iff_ne,ne_eq,Decidable.not_not]
 generalize sprF p p.length=S at *
 constructor
 ·rintro ⟨h1,h2⟩ i hi k hk
  have e1:=h1 _ (by rw [getD_nat hi]; exact List.getElem_mem hi:p.getD i lotD ∈ p)
  have e2:=h1 _ (by rw [getD_nat hk]; exact List.getElem_mem hk:p.getD k lotD ∈ p)
  have u:=a i hi
  have v:=a k hk
  refine ⟨e1.trans e2.symm,?_⟩
  unfold farL
  rw [gmax_eq]; omega
 ·intro h1
  refine ⟨fun x hx=>?_,?_⟩
  ·obtain ⟨i,hi,rfl⟩:=List.getElem_of_mem hx
   have:=(h1 i hi 0 (by omega)).1
   rwa [getD_nat hi] at this
  ·have:=(h1 i4 b4 i3 b3).2
   unfold farL at this
   rw [gmax_eq] at this
   omega
def lessR (a b:List Int):Bool:=if a.length ≠ b.length then decide (a.length < b.length) else decide (cmpL a b < 0)
theorem less_eq (a b:List Int):lessF a b=lessR a b:=by
 unfold lessF lessR
 by_cases h:a.length=b.length
 ·have e:cmpI (a.length:Int) (b.length:Int)=0:=cmpI_zero.2 (by omega)
  rw [if_neg (by omega),e]
  have:orI [0,cmpL a b]=cmpL a b:=by
   unfold orI
   by_cases h2:cmpL a b=0
   ·rw [h2]; rfl
   ·rw [List.find?_cons_of_neg (by simp),List.find?_cons_of_pos (by simpa using h2)]; rfl
  rw [this]
 ·have e:cmpI (a.length:Int) (b.length:Int)=if a.length < b.length then -1 else 1:=by
   unfold cmpI
   by_cases h2:a.length < b.length
   ·rw [if_pos h2,if_pos (by omega)]
   ·rw [if_neg h2,if_neg (by omega),if_pos (by omega)]
  have h3:cmpI (a.length:Int) (b.length:Int) ≠ 0:=by rw [e]; split <;> decide
  have:orI [cmpI (a.length:Int) (b.length:Int),cmpL a b]=cmpI (a.length:Int) (b.length:Int):=by
   unfold orI
   rw [List.find?_cons_of_pos (by simpa using h3)]; rfl
  rw [this,e,if_pos h]
  by_cases h2:a.length < b.length
  ·rw [if_pos h2,decide_eq_true h2]; rfl
  ·rw [if_neg h2,decide_eq_false h2]; rfl
end Go.Proofs.Tryz
set_option linter.unusedVariables false
namespace Go.Proofs.Tryz
open Go Go.V Go.Proofs
def al_ref09_Pair:AL ((List (Int × (Int × Int) × Int)) × Int × Int × Int):=(.cons (.k (.list (.pair (.i .i64) (.pair (.pair (.i .i64) (.i .i64)) (.i .i64))))) (.cons (.k (.i .i64)) (.cons (.k (.i .i64)) (.one (.k (.i .i64))))))
def pre_ref09_Pair (d:(List (Int × (Int × Int) × Int)) × Int × Int × Int):Prop:=(∀ y ∈ d.1,lotOk y=true)∧0 ≤ d.2.1∧d.2.1 < d.1.length∧0 ≤ d.2.2.1∧d.2.2.1 < d.1.length
def res_ref09_Pair (d:(List (Int × (Int × Int) × Int)) × Int × Int × Int):SV:=.val .bo (pairB (d.1.getD d.2.1.toNat lotD) (d.1.getD d.2.2.1.toNat lotD) d.2.2.2)
def obs_ref09_Pair (d:(List (Int × (Int × Int) × Int)) × Int × Int × Int):List OB:=[]
def s_ref09_Pair:CSp:=mkSp al_ref09_Pair pre_ref09_Pair res_ref09_Pair obs_ref09_Pair
def vc_ref09_Pair (l:List (Int × (Int × Int) × Int)) (a:Int) (b:Int) (tl:Int):Prop :=
 (0 ≤ a)∧(a < (List.length l))∧(0 ≤ b)∧(b < (List.length l))∧(((gD l a (0,((0,0),0))).1 == (gD l b (0,((0,0),0))).1)=true→0 ≤ a)∧(((gD l a (0,((0,0),0))).1 == (gD l b (0,((0,0),0))).1)=true→a < (List.length l))∧(((gD l a (0,((0,0),0))).1 == (gD l b (0,((0,0),0))).1)=true→0 ≤ b)∧(((gD l a (0,((0,0),0))).1 == (gD l b (0,((0,0),0))).1)=true→b < (List.length l))∧(((gD l a (0,((0,0),0))).1 == (gD l b (0,((0,0),0))).1)=true→0 ≤ ((gD l a (0,((0,0),0))).2.1.1)∧((gD l a (0,((0,0),0))).2.1.1) ≤ 1000∧0 ≤ ((gD l a (0,((0,0),0))).2.1.2)∧((gD l a (0,((0,0),0))).2.1.2) ≤ 1000∧0 ≤ ((gD l b (0,((0,0),0))).2.1.1)∧((gD l b (0,((0,0),0))).2.1.1) ≤ 1000∧0 ≤ ((gD l b (0,((0,0),0))).2.1.2)∧((gD l b (0,((0,0),0))).2.1.2) ≤ 1000)∧((((gD l a (0,((0,0),0))).1 == (gD l b (0,((0,0),0))).1) && (decide ((farL (((gD l a (0,((0,0),0))).1),(((gD l a (0,((0,0),0))).2.1.1),((gD l a (0,((0,0),0))).2.1.2)),((gD l a (0,((0,0),0))).2.2)) (((gD l b (0,((0,0),0))).1),(((gD l b (0,((0,0),0))).2.1.1),((gD l b (0,((0,0),0))).2.1.2)),((gD l b (0,((0,0),0))).2.2))) ≤ tl)))=true→0 ≤ a)∧((((gD l a (0,((0,0),0))).1 == (gD l b (0,((0,0),0))).1) && (decide ((farL (((gD l a (0,((0,0),0))).1),(((gD l a (0,((0,0),0))).2.1.1),((gD l a (0,((0,0),0))).2.1.2)),((gD l a (0,((0,0),0))).2.2)) (((gD l b (0,((0,0),0))).1),(((gD l b (0,((0,0),0))).2.1.1),((gD l b (0,((0,0),0))).2.1.2)),((gD l b (0,((0,0),0))).2.2))) ≤ tl)))=true→a < (List.length l))∧((((gD l a (0,((0,0),0))).1 == (gD l b (0,((0,0),0))).1) && (decide ((farL (((gD l a (0,((0,0),0))).1),(((gD l a (0,((0,0),0))).2.1.1),((gD l a (0,((0,0),0))).2.1.2)),((gD l a (0,((0,0),0))).2.2)) (((gD l b (0,((0,0),0))).1),(((gD l b (0,((0,0),0))).2.1.1),((gD l b (0,((0,0),0))).2.1.2)),((gD l b (0,((0,0),0))).2.2))) ≤ tl)))=true→0 ≤ a)∧((((gD l a (0,((0,0),0))).1 == (gD l b (0,((0,0),0))).1) && (decide ((farL (((gD l a (0,((0,0),0))).1),(((gD l a (0,((0,0),0))).2.1.1),((gD l a (0,((0,0),0))).2.1.2)),((gD l a (0,((0,0),0))).2.2)) (((gD l b (0,((0,0),0))).1),(((gD l b (0,((0,0),0))).2.1.1),((gD l b (0,((0,0),0))).2.1.2)),((gD l b (0,((0,0),0))).2.2))) ≤ tl)))=true→a < (List.length l))∧((((gD l a (0,((0,0),0))).1 == (gD l b (0,((0,0),0))).1) && (decide ((farL (((gD l a (0,((0,0),0))).1),(((gD l a (0,((0,0),0))).2.1.1),((gD l a (0,((0,0),0))).2.1.2)),((gD l a (0,((0,0),0))).2.2)) (((gD l b (0,((0,0),0))).1),(((gD l b (0,((0,0),0))).2.1.1),((gD l b (0,((0,0),0))).2.1.2)),((gD l b (0,((0,0),0))).2.2))) ≤ tl)))=true→0 ≤ ((gD l a (0,((0,0),0))).2.1.1)∧((gD l a (0,((0,0),0))).2.1.1) ≤ 1000∧0 ≤ ((gD l a (0,((0,0),0))).2.1.2)∧((gD l a (0,((0,0),0))).2.1.2) ≤ 1000∧0 ≤ ((gD l a (0,((0,0),0))).2.1.1)∧((gD l a (0,((0,0),0))).2.1.1) ≤ 1000∧0 ≤ ((gD l a (0,((0,0),0))).2.1.2)∧((gD l a (0,((0,0),0))).2.1.2) ≤ 1000)∧(((((gD l a (0,((0,0),0))).1 == (gD l b (0,((0,0),0))).1) && (decide ((farL (((gD l a (0,((0,0),0))).1),(((gD l a (0,((0,0),0))).2.1.1),((gD l a (0,((0,0),0))).2.1.2)),((gD l a (0,((0,0),0))).2.2)) (((gD l b (0,((0,0),0))).1),(((gD l b (0,((0,0),0))).2.1.1),((gD l b (0,((0,0),0))).2.1.2)),((gD l b (0,((0,0),0))).2.2))) ≤ tl))) && (decide ((farL (((gD l a (0,((0,0),0))).1),(((gD l a (0,((0,0),0))).2.1.1),((gD l a (0,((0,0),0))).2.1.2)),((gD l a (0,((0,0),0))).2.2)) (((gD l a (0,((0,0),0))).1),(((gD l a (0,((0,0),0))).2.1.1),((gD l a (0,((0,0),0))).2.1.2)),((gD l a (0,((0,0),0))).2.2))) ≤ tl)))=true→0 ≤ b)∧(((((gD l a (0,((0,0),0))).1 == (gD l b (0,((0,0),0))).1) && (decide ((farL (((gD l a (0,((0,0),0))).1),(((gD l a (0,((0,0),0))).2.1.1),((gD l a (0,((0,0),0))).2.1.2)),((gD l a (0,((0,0),0))).2.2)) (((gD l b (0,((0,0),0))).1),(((gD l b (0,((0,0),0))).2.1.1),((gD l b (0,((0,0),0))).2.1.2)),((gD l b (0,((0,0),0))).2.2))) ≤ tl))) && (decide ((farL (((gD l a (0,((0,0),0))).1),(((gD l a (0,((0,0),0))).2.1.1),((gD l a (0,((0,0),0))).2.1.2)),((gD l a (0,((0,0),0))).2.2)) (((gD l a (0,((0,0),0))).1),(((gD l a (0,((0,0),0))).2.1.1),((gD l a (0,((0,0),0))).2.1.2)),((gD l a (0,((0,0),0))).2.2))) ≤ tl)))=true→b < (List.length l))∧(((((gD l a (0,((0,0),0))).1 == (gD l b (0,((0,0),0))).1) && (decide ((farL (((gD l a (0,((0,0),0))).1),(((gD l a (0,((0,0),0))).2.1.1),((gD l a (0,((0,0),0))).2.1.2)),((gD l a (0,((0,0),0))).2.2)) (((gD l b (0,((0,0),0))).1),(((gD l b (0,((0,0),0))).2.1.1),((gD l b (0,((0,0),0))).2.1.2)),((gD l b (0,((0,0),0))).2.2))) ≤ tl))) && (decide ((farL (((gD l a (0,((0,0),0))).1),(((gD l a (0,((0,0),0))).2.1.1),((gD l a (0,((0,0),0))).2.1.2)),((gD l a (0,((0,0),0))).2.2)) (((gD l a (0,((0,0),0))).1),(((gD l a (0,((0,0),0))).2.1.1),((gD l a (0,((0,0),0))).2.1.2)),((gD l a (0,((0,0),0))).2.2))) ≤ tl)))=true→0 ≤ b)∧(((((gD l a (0,((0,0),0))).1 == (gD l b (0,((0,0),0))).1) && (decide ((farL (((gD l a (0,((0,0),0))).1),(((gD l a (0,((0,0),0))).2.1.1),((gD l a (0,((0,0),0))).2.1.2)),((gD l a (0,((0,0),0))).2.2)) (((gD l b (0,((0,0),0))).1),(((gD l b (0,((0,0),0))).2.1.1),((gD l b (0,((0,0),0))).2.1.2)),((gD l b (0,((0,0),0))).2.2))) ≤ tl))) && (decide ((farL (((gD l a (0,((0,0),0))).1),(((gD l a (0,((0,0),0))).2.1.1),((gD l a (0,((0,0),0))).2.1.2)),((gD l a (0,((0,0),0))).2.2)) (((gD l a (0,((0,0),0))).1),(((gD l a (0,((0,0),0))).2.1.1),((gD l a (0,((0,0),0))).2.1.2)),((gD l a (0,((0,0),0))).2.2))) ≤ tl)))=true→b < (List.length l))∧(((((gD l a (0,((0,0),0))).1 == (gD l b (0,((0,0),0))).1) && (decide ((farL (((gD l a (0,((0,0),0))).1),(((gD l a (0,((0,0),0))).2.1.1),((gD l a (0,((0,0),0))).2.1.2)),((gD l a (0,((0,0),0))).2.2)) (((gD l b (0,((0,0),0))).1),(((gD l b (0,((0,0),0))).2.1.1),((gD l b (0,((0,0),0))).2.1.2)),((gD l b (0,((0,0),0))).2.2))) ≤ tl))) && (decide ((farL (((gD l a (0,((0,0),0))).1),(((gD l a (0,((0,0),0))).2.1.1),((gD l a (0,((0,0),0))).2.1.2)),((gD l a (0,((0,0),0))).2.2)) (((gD l a (0,((0,0),0))).1),(((gD l a (0,((0,0),0))).2.1.1),((gD l a (0,((0,0),0))).2.1.2)),((gD l a (0,((0,0),0))).2.2))) ≤ tl)))=true→0 ≤ ((gD l b (0,((0,0),0))).2.1.1)∧((gD l b (0,((0,0),0))).2.1.1) ≤ 1000∧0 ≤ ((gD l b (0,((0,0),0))).2.1.2)∧((gD l b (0,((0,0),0))).2.1.2) ≤ 1000∧0 ≤ ((gD l b (0,((0,0),0))).2.1.1)∧((gD l b (0,((0,0),0))).2.1.1) ≤ 1000∧0 ≤ ((gD l b (0,((0,0),0))).2.1.2)∧((gD l b (0,((0,0),0))).2.1.2) ≤ 1000)∧((((((gD l a (0,((0,0),0))).1 == (gD l b (0,((0,0),0))).1) && (decide ((farL (((gD l a (0,((0,0),0))).1),(((gD l a (0,((0,0),0))).2.1.1),((gD l a (0,((0,0),0))).2.1.2)),((gD l a (0,((0,0),0))).2.2)) (((gD l b (0,((0,0),0))).1),(((gD l b (0,((0,0),0))).2.1.1),((gD l b (0,((0,0),0))).2.1.2)),((gD l b (0,((0,0),0))).2.2))) ≤ tl))) && (decide ((farL (((gD l a (0,((0,0),0))).1),(((gD l a (0,((0,0),0))).2.1.1),((gD l a (0,((0,0),0))).2.1.2)),((gD l a (0,((0,0),0))).2.2)) (((gD l a (0,((0,0),0))).1),(((gD l a (0,((0,0),0))).2.1.1),((gD l a (0,((0,0),0))).2.1.2)),((gD l a (0,((0,0),0))).2.2))) ≤ tl))) && (decide ((farL (((gD l b (0,((0,0),0))).1),(((gD l b (0,((0,0),0))).2.1.1),((gD l b (0,((0,0),0))).2.1.2)),((gD l b (0,((0,0),0))).2.2)) (((gD l b (0,((0,0),0))).1),(((gD l b (0,((0,0),0))).2.1.1),((gD l b (0,((0,0),0))).2.1.2)),((gD l b (0,((0,0),0))).2.2))) ≤ tl)))=(pairB (l.getD a.toNat lotD) (l.getD b.toNat lotD) tl)∧(True))
def cx_ref09_Pair:Cx:=⟨[],[(73,s_ref09_Far)],59,[],0,[],[],[],[],false,[],[],[]⟩
def lp_ref09_Pair (l:List (Int × (Int × Int) × Int)) (a:Int) (b:Int) (tl:Int):List (Nat × LoopAnn):=[]
set_option maxRecDepth 100000 in
theorem vq_ref09_Pair (d:(List (Int × (Int × Int) × Int)) × Int × Int × Int):gwp (cx_ref09_Pair) (lp_ref09_Pair d.1 d.2.1 d.2.2.1 d.2.2.2) c44 0 (gend [.tmp 8] (res_ref09_Pair d) (obs_ref09_Pair d)) (gstart 59 (AL.can al_ref09_Pair d))=vc_ref09_Pair d.1 d.2.1 d.2.2.1 d.2.2.2:=by kernel_rfl
abbrev Ok_ref09_Pair:Prop:=OkC Tryz.prog 44 s_ref09_Pair
theorem mk_ref09_Pair (h:∀ (l:List (Int × (Int × Int) × Int)) (a:Int) (b:Int) (tl:Int),((∀ y ∈ l,lotOk y=true)∧0 ≤ a∧a < l.length∧0 ≤ b∧b < l.length)→vc_ref09_Pair l a b tl):OkC Tryz.prog 44 s_ref09_Pair :=
 okC_vc fun44 mixed (C:=cx_ref09_Pair) (V:=fun (d:(List (Int × (Int × Int) × Int)) × Int × Int × Int)=>vc_ref09_Pair d.1 d.2.1 d.2.2.1 d.2.2.2) ⟨(.cons ok_ref09_Far .nil),XsOk.nil,ItsOk.nil,YlOk.nil,IysOk.nil⟩ (vq_ref09_Pair) fun d hp=>h d.1 d.2.1 d.2.2.1 d.2.2.2 hp
theorem ok_ref09_Pair:Ok_ref09_Pair:=mk_ref09_Pair fun l a b tl h=>by
 obtain ⟨h1,h2,h3,h4,h5⟩:=h
 unfold vc_ref09_Pair; (try delta lI gD sT I64)
 have hd:∀ j,l.getD j (0,((0,0),0))=l.getD j lotD:=fun _=>rfl
 simp only [hd]
 have hlot:∀ j:Int,0 ≤ j→j < l.length→0 ≤ (l.getD j.toNat lotD).2.1.1∧(l.getD j.toNat lotD).2.1.1 ≤ 1000∧0 ≤ (l.getD j.toNat lotD).2.1.2∧(l.getD j.toNat lotD).2.1.2 ≤ 1000:=fun j j0 j1=>by
  have hj:j.toNat < l.length:=by omega
  have:=lotOk_iff.1 (h1 _ (List.getElem_mem hj))
  rw [getD_nat hj]; omega
 have u:=hlot a h2 h3
 have v:=hlot b h4 h5
 generalize l.getD a.toNat lotD=x at *
 generalize l.getD b.toNat lotD=y at *
 obtain ⟨u1,u2,u3,u4⟩:=u
 obtain ⟨v1,v2,v3,v4⟩:=v
 and_intros
 all_goals first | omega | rfl | trivial | (intro _; omega) | (intro _; and_intros <;> first | omega | rfl | trivial)
def al_ref09_Alike:AL ((List (Int × (Int × Int) × Int)) × List Int × Int):=(.cons (.k (.list (.pair (.i .i64) (.pair (.pair (.i .i64) (.i .i64)) (.i .i64))))) (.cons (.k (.list (.i .i64))) (.one (.k (.i .i64)))))
def pre_ref09_Alike (d:(List (Int × (Int × Int) × Int)) × List Int × Int):Prop:=(∀ y ∈ d.1,lotOk y=true)∧d.2.1.length ≤ 1000∧∀ i ∈ d.2.1,0 ≤ i∧i < d.1.length
def res_ref09_Alike (d:(List (Int × (Int × Int) × Int)) × List Int × Int):SV:=.val .bo (alikeR (pickL d.1 d.2.1) d.2.2)
def obs_ref09_Alike (d:(List (Int × (Int × Int) × Int)) × List Int × Int):List OB:=[]
def s_ref09_Alike:CSp:=mkSp al_ref09_Alike pre_ref09_Alike res_ref09_Alike obs_ref09_Alike
def vc_ref09_Alike (l:List (Int × (Int × Int) × Int)) (sm:List Int) (tl:Int):Prop :=
 ∃ (e2:Unit) (d20:Int),((l=l∧sm=sm∧tl=tl∧(0:Int)=d20∧True)∧(True)) ∧
 LoopP (fun (d2:Int) (q2:(Int)→Prop) =>
  ((decide (d2 < (lI sm)))=true →
   ∃ (e4:Int) (d40:Int),((l=l∧sm=sm∧tl=tl∧d2=e4∧(0:Int)=d40∧True)∧(True)) ∧
   LoopP (fun (d4:Int) (q4:(Int)→Prop) =>
    ((decide (d4 < (lI sm)))=true →
     (0 ≤ e4)∧(e4 < (List.length sm))∧(0 ≤ d4)∧(d4 < (List.length sm))∧((∀ y ∈ l,lotOk y=true)∧0 ≤ (gD sm e4 0)∧(gD sm e4 0) < l.length∧0 ≤ (gD sm d4 0)∧(gD sm d4 0) < l.length)∧((!(pairB (l.getD (gD sm e4 0).toNat lotD) (l.getD (gD sm d4 0).toNat lotD) tl))=true →
      (false=(alikeR (pickL l sm) tl)∧(True))) ∧
     ((!(pairB (l.getD (gD sm e4 0).toNat lotD) (l.getD (gD sm d4 0).toNat lotD) tl))=false →
      (I64 (d4 + (1:Int)))∧(∃ d5:Int,((l=l∧sm=sm∧tl=tl∧e4=e4∧(d4 + (1:Int))=d5∧True)∧(True))∧q4 d5))) ∧
    ((decide (d4 < (lI sm)))=false →
     (I64 (e4 + (1:Int)))∧(∃ d6:Int,((l=l∧sm=sm∧tl=tl∧(e4 + (1:Int))=d6∧True)∧(True))∧q2 d6))) d40) ∧
  ((decide (d2 < (lI sm)))=false →
   (true=(alikeR (pickL l sm) tl)∧(True)))) d20
def cx_ref09_Alike:Cx:=⟨[],[(44,s_ref09_Pair)],33,[],0,[],[],[],[],false,[],[],[]⟩
def lp_ref09_Alike (l:List (Int × (Int × Int) × Int)) (sm:List Int) (tl:Int):List (Nat × LoopAnn):=[(0,⟨Unit,Int,[0,1,2,7],fun e x=>[.val (.list (.pair (.i .i64) (.pair (.pair (.i .i64) (.i .i64)) (.i .i64)))) l,.val (.list (.i .i64)) sm,.val (.i .i64) tl,.val (.i .i64) x],fun e x=>[]⟩),
 (2,⟨Int,Int,[0,1,2,7,8],fun e x=>[.val (.list (.pair (.i .i64) (.pair (.pair (.i .i64) (.i .i64)) (.i .i64)))) l,.val (.list (.i .i64)) sm,.val (.i .i64) tl,.val (.i .i64) e,.val (.i .i64) x],fun e x=>[]⟩)]
set_option maxRecDepth 100000 in
theorem vq_ref09_Alike (d:(List (Int × (Int × Int) × Int)) × List Int × Int):gwp (cx_ref09_Alike) (lp_ref09_Alike d.1 d.2.1 d.2.2) c21 0 (gend [.tmp 6] (res_ref09_Alike d) (obs_ref09_Alike d)) (gstart 33 (AL.can al_ref09_Alike d))=vc_ref09_Alike d.1 d.2.1 d.2.2:=by kernel_rfl
abbrev Ok_ref09_Alike:Prop:=OkC Tryz.prog 21 s_ref09_Alike
theorem mk_ref09_Alike (h:∀ (l:List (Int × (Int × Int) × Int)) (sm:List Int) (tl:Int),((∀ y ∈ l,lotOk y=true)∧sm.length ≤ 1000∧∀ i ∈ sm,0 ≤ i∧i < l.length)→vc_ref09_Alike l sm tl):OkC Tryz.prog 21 s_ref09_Alike :=
 okC_vc fun21 mixed (C:=cx_ref09_Alike) (V:=fun (d:(List (Int × (Int × Int) × Int)) × List Int × Int)=>vc_ref09_Alike d.1 d.2.1 d.2.2) ⟨(.cons ok_ref09_Pair .nil),XsOk.nil,ItsOk.nil,YlOk.nil,IysOk.nil⟩ (vq_ref09_Alike) fun d hp=>h d.1 d.2.1 d.2.2 hp
theorem getD_memS {lw:List Int} {w:Nat} (hw:w < lw.length):lw.getD w 0 ∈ lw:=by rw [getD_nat hw]; exact List.getElem_mem hw
theorem pickL_atS {l:List Lot} {sm:List Int} {i:Nat} (h:i < sm.length):(pickL l sm).getD i lotD=l.getD (sm.getD i 0).toNat lotD:=by
 rw [getD_nat (by simpa [pickL] using h),getD_nat h]; simp [pickL]
theorem alikeR_all {p:List Lot} {t:Int}:alikeR p t=true ↔ ∀ i,i < p.length→∀ k,k < p.length→pairB (p.getD i lotD) (p.getD k lotD) t=true:=by
 simp only [alikeR,List.all_eq_true,List.mem_range]
theorem ok_ref09_Alike:Ok_ref09_Alike:=mk_ref09_Alike fun l sm tl h=>by
 obtain ⟨h1,h2,h3⟩:=h
 have hpl:(pickL l sm).length=sm.length:=by simp [pickL]
 unfold vc_ref09_Alike; (try delta lI gD sT I64)
 simp only [decide_eq_true_eq,decide_eq_false_iff_not]
 refine ⟨(),0,(by and_intros <;> first | rfl | trivial | simp),?_⟩
 refine LoopP.count sm.length (fun i=>∀ a,a < i→∀ k,k < sm.length→pairB ((pickL l sm).getD a lotD) ((pickL l sm).getD k lotD) tl=true) (fun a ha=>by omega) fun i hi hJ q hq=>?_
 refine ⟨fun hlt=>⟨(i:Int),0,(by and_intros <;> first | rfl | trivial | simp),?_⟩,fun hge=>?_⟩
 ·have hil:i < sm.length:=by omega
  have hxi:=h3 _ (getD_memS hil)
  refine LoopP.count sm.length (fun k=>∀ b,b < k→pairB ((pickL l sm).getD i lotD) ((pickL l sm).getD b lotD) tl=true) (fun a ha=>by omega) fun k hk hI q6 hq6=>?_
  simp only [Int.toNat_natCast]
  refine ⟨fun hlt2=>?_,fun hge2=>⟨by rw [InK_i64]; omega,_,(by and_intros <;> first | rfl | trivial | simp),hq hil fun a ha=>?_⟩⟩
  ·have hkl:k < sm.length:=by omega
   have hxk:=h3 _ (getD_memS hkl)
   rw [←pickL_atS hil,←pickL_atS hkl]
   refine ⟨by omega,hlt,by omega,hlt2,⟨h1,hxi.1,hxi.2,hxk.1,hxk.2⟩,fun hx=>⟨Eq.symm ?_,trivial⟩,fun hx=>⟨by rw [InK_i64]; omega,_,(by and_intros <;> first | rfl | trivial | simp),hq6 hkl fun b hb=>?_⟩⟩
   ·rw [←Bool.not_eq_true,alikeR_all]
    intro h9
    rw [h9 i (by omega) k (by omega)] at hx
    cases hx
   ·rcases Nat.lt_succ_iff_lt_or_eq.1 hb with hb | rfl
    ·exact hI b hb
    ·simpa using hx
  ·have:k=sm.length:=by omega
   subst this
   rcases Nat.lt_succ_iff_lt_or_eq.1 ha with ha | rfl
   ·exact hJ a ha
   ·exact hI
 ·have:i=sm.length:=by omega
  subst this
  refine ⟨Eq.symm ?_,trivial⟩
  rw [alikeR_all,hpl]
  exact hJ
def al_ref09_Chosen:AL (Int × Int):=(.cons (.k (.i .i64)) (.one (.k (.i .i64))))
def pre_ref09_Chosen (d:Int × Int):Prop:=0 ≤ d.2∧d.2 ≤ 12∧0 ≤ d.1∧d.1 < 2 ^ d.2.toNat
def res_ref09_Chosen (d:Int × Int):SV:=.lst 0
def obs_ref09_Chosen (d:Int × Int):List OB:=[.lst 3 (.i .i64) (chosenK d.1.toNat d.2.toNat) false]
def s_ref09_Chosen:CSp:=mkSp al_ref09_Chosen pre_ref09_Chosen res_ref09_Chosen obs_ref09_Chosen
def vc_ref09_Chosen (bt:Int) (n:Int):Prop :=
 ∃ (e2:Unit) (d20:(List Int) × Int),((bt=bt∧n=n∧True∧(0:Int)=d20.2∧True)∧((([]:List Int)=d20.1∧false=false)∧True)) ∧
 LoopP (fun (d2:(List Int) × Int) (q2:((List Int) × Int)→Prop) =>
  ((decide (d2.2 < n))=true →
   (InK .u64 d2.2)∧(0 ≤ d2.2)∧(((vbits .and .i64 (shrI .i64 bt d2.2) (1:Int)) == (1:Int))=true →
    (((List.length d2.1) + (List.length [d2.2])) * 8 ≤ 70368744177664)∧(I64 (d2.2 + (1:Int)))∧(∃ d3:(List Int) × Int,((bt=bt∧n=n∧True∧(d2.2 + (1:Int))=d3.2∧True)∧(((d2.1++[d2.2])=d3.1∧false=false)∧True))∧q2 d3)) ∧
   (((vbits .and .i64 (shrI .i64 bt d2.2) (1:Int)) == (1:Int))=false →
    (I64 (d2.2 + (1:Int)))∧(∃ d4:(List Int) × Int,((bt=bt∧n=n∧True∧(d2.2 + (1:Int))=d4.2∧True)∧((d2.1=d4.1∧false=false)∧True))∧q2 d4))) ∧
  ((decide (d2.2 < n))=false →
   (True∧((d2.1=(chosenK bt.toNat n.toNat)∧false=false)∧True)))) d20
def cx_ref09_Chosen:Cx:=⟨[(3,(.i .i64))],[],24,[],0,[],[],[],[],false,[],[],[]⟩
def lp_ref09_Chosen (bt:Int) (n:Int):List (Nat × LoopAnn):=[(0,⟨Unit,(List Int) × Int,[0,1,5,6],fun e x=>[.val (.i .i64) bt,.val (.i .i64) n,.lst 7,.val (.i .i64) x.2],fun e x=>[(7,.slot 5,.lst 3 (.i .i64) x.1 false)]⟩)]
set_option maxRecDepth 100000 in
theorem vq_ref09_Chosen (d:Int × Int):gwp (cx_ref09_Chosen) (lp_ref09_Chosen d.1 d.2) c50 0 (gend [.tmp 4] (res_ref09_Chosen d) (obs_ref09_Chosen d)) (gstart 24 (AL.can al_ref09_Chosen d))=vc_ref09_Chosen d.1 d.2:=by kernel_rfl
abbrev Ok_ref09_Chosen:Prop:=OkC Tryz.prog 50 s_ref09_Chosen
theorem mk_ref09_Chosen (h:∀ (bt:Int) (n:Int),(0 ≤ n∧n ≤ 12∧0 ≤ bt∧bt < 2 ^ n.toNat)→vc_ref09_Chosen bt n):OkC Tryz.prog 50 s_ref09_Chosen :=
 okC_vc fun50 mixed (C:=cx_ref09_Chosen) (V:=fun (d:Int × Int)=>vc_ref09_Chosen d.1 d.2) ⟨.nil,XsOk.nil,ItsOk.nil,YlOk.nil,IysOk.nil⟩ (vq_ref09_Chosen) fun d hp=>h d.1 d.2 hp
theorem chosenK_succ (n k:Nat):chosenK n (k + 1)=chosenK n k++if n.testBit k then [(k:Int)] else []:=by
 unfold chosenK
 rw [List.range_succ,List.filter_append,List.map_append]
 congr 1
 rw [List.filter_cons]
 split <;> simp
theorem chosenK_len (n k:Nat):(chosenK n k).length ≤ k:=by
 unfold chosenK
 rw [List.length_map]
 have:=List.length_filter_le (fun k=>n.testBit k) (List.range k)
 rw [List.length_range] at this
 exact this
theorem ok_ref09_Chosen:Ok_ref09_Chosen:=mk_ref09_Chosen fun bt n h=>by
 obtain ⟨h1,h2,h3,h4⟩:=h
 obtain ⟨m,rfl⟩:=Int.eq_ofNat_of_zero_le h1
 obtain ⟨b,rfl⟩:=Int.eq_ofNat_of_zero_le h3
 unfold vc_ref09_Chosen; (try delta lI gD sT I64)
 rw [Int.toNat_natCast] at h4
 have hp:(2:Int) ^ m=((2 ^ m:Nat):Int):=by simp
 have hp2:2 ^ m ≤ 2 ^ 12:=Nat.pow_le_pow_right (by omega) (by omega)
 have h12:(2:Nat) ^ 12=4096:=rfl
 simp only [Int.toNat_natCast,decide_eq_true_eq,decide_eq_false_iff_not]
 refine ⟨(),([],0),(by and_intros <;> first | rfl | trivial | simp),?_⟩
 refine LoopP.count2 m (fun k L=>L=chosenK b k) rfl fun k L hk hJ q hq=>?_
 subst hJ
 have hlen:=chosenK_len b k
 dsimp only
 rw [shr_bit (by omega) (by omega)]
 refine ⟨fun hlt=>⟨by rw [InK_u64]; omega,by omega,fun hx=>⟨by simp only [List.length_cons,List.length_nil]; omega,by rw [InK_i64]; omega,(chosenK b k++[(k:Int)],(k:Int) + 1),(by and_intros <;> first | rfl | trivial | simp),hq _ (by omega) ?_⟩,fun hx=>⟨by rw [InK_i64]; omega,(chosenK b k,(k:Int) + 1),(by and_intros <;> first | rfl | trivial | simp),hq _ (by omega) ?_⟩⟩,fun hge=>?_⟩
 ·rw [chosenK_succ,hx,if_pos rfl]
 ·rw [chosenK_succ,hx,if_neg (by decide),List.append_nil]
 ·have:k=m:=by omega
  subst this
  exact (by and_intros <;> first | rfl | trivial | simp)
def al_ref09_Less:AL (List Int × List Int):=(.cons (.k (.list (.i .i64))) (.one (.k (.list (.i .i64)))))
def pre_ref09_Less (d:List Int × List Int):Prop:=d.1.length ≤ 1000∧d.2.length ≤ 1000
def res_ref09_Less (d:List Int × List Int):SV:=.val .bo (lessR d.1 d.2)
def obs_ref09_Less (d:List Int × List Int):List OB:=[]
def s_ref09_Less:CSp:=mkSp al_ref09_Less pre_ref09_Less res_ref09_Less obs_ref09_Less
def vc_ref09_Less (a:List Int) (b:List Int):Prop :=
 (((lI a) != (lI b))=true →
  ((decide ((lI a) < (lI b)))=(lessR a b)∧(True))) ∧
 (((lI a) != (lI b))=false →
  ∃ (e2:Unit) (d20:Int),((a=a∧b=b∧(0:Int)=d20∧True)∧(True)) ∧
  LoopP (fun (d2:Int) (q2:(Int)→Prop) =>
   ((decide (d2 < (lI a)))=true →
    (0 ≤ d2)∧(d2 < (List.length a))∧(0 ≤ d2)∧(d2 < (List.length b))∧(((gD a d2 0) != (gD b d2 0))=true →
     (0 ≤ d2)∧(d2 < (List.length a))∧(0 ≤ d2)∧(d2 < (List.length b))∧((decide ((gD a d2 0) < (gD b d2 0)))=(lessR a b)∧(True))) ∧
    (((gD a d2 0) != (gD b d2 0))=false →
     (I64 (d2 + (1:Int)))∧(∃ d3:Int,((a=a∧b=b∧(d2 + (1:Int))=d3∧True)∧(True))∧q2 d3))) ∧
   ((decide (d2 < (lI a)))=false →
    (false=(lessR a b)∧(True)))) d20)
def cx_ref09_Less:Cx:=⟨[],[],40,[],0,[],[],[],[],false,[],[],[]⟩
def lp_ref09_Less (a:List Int) (b:List Int):List (Nat × LoopAnn):=[(0,⟨Unit,Int,[0,1,5],fun e x=>[.val (.list (.i .i64)) a,.val (.list (.i .i64)) b,.val (.i .i64) x],fun e x=>[]⟩)]
set_option maxRecDepth 100000 in
theorem vq_ref09_Less (d:List Int × List Int):gwp (cx_ref09_Less) (lp_ref09_Less d.1 d.2) c54 0 (gend [.tmp 4] (res_ref09_Less d) (obs_ref09_Less d)) (gstart 40 (AL.can al_ref09_Less d))=vc_ref09_Less d.1 d.2:=by kernel_rfl
abbrev Ok_ref09_Less:Prop:=OkC Tryz.prog 54 s_ref09_Less
theorem mk_ref09_Less (h:∀ (a:List Int) (b:List Int),(a.length ≤ 1000∧b.length ≤ 1000)→vc_ref09_Less a b):OkC Tryz.prog 54 s_ref09_Less :=
 okC_vc fun54 mixed (C:=cx_ref09_Less) (V:=fun (d:List Int × List Int)=>vc_ref09_Less d.1 d.2) ⟨.nil,XsOk.nil,ItsOk.nil,YlOk.nil,IysOk.nil⟩ (vq_ref09_Less) fun d hp=>h d.1 d.2 hp
theorem ok_ref09_Less:Ok_ref09_Less:=mk_ref09_Less fun a b h=>by
 obtain ⟨h1,h2⟩:=h
 unfold vc_ref09_Less; (try delta lI gD sT I64)
 simp only [decide_eq_true_eq,decide_eq_false_iff_not]
 refine ⟨fun hx=>⟨?_,trivial⟩,fun hx=>?_⟩
 ·have hx:a.length ≠ b.length:=fun e=>by rw [e] at hx; simp at hx
  unfold lessR; rw [if_pos hx]
  rw [Bool.eq_iff_iff,decide_eq_true_eq,decide_eq_true_eq]; omega
 have hl:a.length=b.length:=by simp only [bne_eq_false_iff_eq] at hx; omega
 have hR:lessR a b=decide (cmpL a b < 0):=by unfold lessR; rw [if_neg (by omega)]
 rw [hR]
 refine ⟨(),0,(by and_intros <;> first | rfl | trivial | simp),?_⟩
 refine LoopP.count a.length (fun k=>∀ j,j < k→a.getD j 0=b.getD j 0) (fun j hj=>by omega) fun k hk hJ q hq=>?_
 have hc:=cmpL_drop k hk (by omega) hJ
 simp only [Int.toNat_natCast]
 refine ⟨fun hlt=>?_,fun hge=>?_⟩
 ·have hkl:k < a.length:=by omega
  have hkb:k < b.length:=by omega
  rw [List.drop_eq_getElem_cons hkl,List.drop_eq_getElem_cons hkb,cmpL] at hc
  simp only [getD_nat hkl,getD_nat hkb]
  refine ⟨by omega,hlt,by omega,by omega,fun hy=>⟨by omega,hlt,by omega,by omega,?_,trivial⟩,fun hy=>⟨by rw [InK_i64]; omega,_,(by and_intros <;> first | rfl | trivial | simp),hq hkl fun j hj=>?_⟩⟩
  ·have hy:a[k] ≠ b[k]:=by simpa using hy
   rw [hc,if_pos (fun e=>hy (cmpI_zero.1 e)),Bool.eq_iff_iff,decide_eq_true_eq,decide_eq_true_eq]
   unfold cmpI
   split
   ·omega
   ·split <;> omega
  ·rcases Nat.lt_succ_iff_lt_or_eq.1 hj with hj | rfl
   ·exact hJ j hj
   ·rw [getD_nat hkl,getD_nat hkb]
    simpa using hy
 ·have:k=a.length:=by omega
  subst this
  rw [List.drop_length,hl,List.drop_length] at hc
  rw [hc]
  exact ⟨rfl,trivial⟩
def al_ref09_Open:AL ((List (Int × (Int × Int) × Int)) × Int):=(.cons (.k (.list (.pair (.i .i64) (.pair (.pair (.i .i64) (.i .i64)) (.i .i64))))) (.one (.k (.i .i64))))
def pre_ref09_Open (d:(List (Int × (Int × Int) × Int)) × Int):Prop:=d.1.length ≤ 9223372036854775807
def res_ref09_Open (d:(List (Int × (Int × Int) × Int)) × Int):SV:=.val (.i .i64) (openErr d.1 d.2)
def obs_ref09_Open (d:(List (Int × (Int × Int) × Int)) × Int):List OB:=[]
def s_ref09_Open:CSp:=mkSp al_ref09_Open pre_ref09_Open res_ref09_Open obs_ref09_Open
def vc_ref09_Open (l:List (Int × (Int × Int) × Int)) (tl:Int):Prop :=
 (l.length ≤ 9223372036854775807)∧(((lotsErr l) != (0:Int))=true →
  ((lotsErr l)=(openErr l tl)∧(True))) ∧
 (((lotsErr l) != (0:Int))=false →
  (True)∧((!(inI tl (0:Int) (1000:Int)))=true →
   ((3:Int)=(openErr l tl)∧(True))) ∧
  ((!(inI tl (0:Int) (1000:Int)))=false →
   ((0:Int)=(openErr l tl)∧(True))))
def cx_ref09_Open:Cx:=⟨[],[(43,s_ref09_Check),(20,s_ref09_In)],14,[],0,[],[],[],[],false,[],[],[]⟩
def lp_ref09_Open (l:List (Int × (Int × Int) × Int)) (tl:Int):List (Nat × LoopAnn):=[]
set_option maxRecDepth 100000 in
theorem vq_ref09_Open (d:(List (Int × (Int × Int) × Int)) × Int):gwp (cx_ref09_Open) (lp_ref09_Open d.1 d.2) c11 0 (gend [.tmp 4] (res_ref09_Open d) (obs_ref09_Open d)) (gstart 14 (AL.can al_ref09_Open d))=vc_ref09_Open d.1 d.2:=by kernel_rfl
abbrev Ok_ref09_Open:Prop:=OkC Tryz.prog 11 s_ref09_Open
theorem mk_ref09_Open (h:∀ (l:List (Int × (Int × Int) × Int)) (tl:Int),(l.length ≤ 9223372036854775807)→vc_ref09_Open l tl):OkC Tryz.prog 11 s_ref09_Open :=
 okC_vc fun11 mixed (C:=cx_ref09_Open) (V:=fun (d:(List (Int × (Int × Int) × Int)) × Int)=>vc_ref09_Open d.1 d.2) ⟨(.cons ok_ref09_Check (.cons ok_ref09_In .nil)),XsOk.nil,ItsOk.nil,YlOk.nil,IysOk.nil⟩ (vq_ref09_Open) fun d hp=>h d.1 d.2 hp
theorem ok_ref09_Open:Ok_ref09_Open:=mk_ref09_Open fun l tl h=>by
 unfold vc_ref09_Open; (try delta lI gD sT I64)
 refine ⟨h,fun hx=>?_,fun hx=>⟨trivial,fun hy=>?_,fun hy=>?_⟩⟩
 ·have hx:lotsErr l ≠ 0:=by simpa using hx
  unfold openErr; rw [if_pos hx]; exact (by and_intros <;> first | rfl | trivial | simp)
 ·have hx:lotsErr l=0:=by simpa using hx
  unfold openErr; rw [if_neg (by omega),if_pos hy]; exact (by and_intros <;> first | rfl | trivial | simp)
 ·have hx:lotsErr l=0:=by simpa using hx
  unfold openErr; rw [if_neg (by omega),if_neg (by rw [hy]; decide)]; exact (by and_intros <;> first | rfl | trivial | simp)
def al_ref09_Need:AL (Int × Int):=(.one (.agg (.cons (.k (.i .i64)) (.one (.k (.i .i64))))))
def pre_ref09_Need (d:Int × Int):Prop:=True
def res_ref09_Need (d:Int × Int):SV:=.val .bo (needOk d.1 d.2)
def obs_ref09_Need (d:Int × Int):List OB:=[]
def s_ref09_Need:CSp:=mkSp al_ref09_Need pre_ref09_Need res_ref09_Need obs_ref09_Need
def vc_ref09_Need (nc:Int) (ng:Int):Prop :=
 (True)∧((inI nc (0:Int) (9:Int))=true→True)∧(((inI nc (0:Int) (9:Int)) && (inI ng (1:Int) (12000000:Int)))=(needOk nc ng)∧(True))
def cx_ref09_Need:Cx:=⟨[],[(20,s_ref09_In)],11,[],0,[],[],[],[],false,[],[],[]⟩
def lp_ref09_Need (nc:Int) (ng:Int):List (Nat × LoopAnn):=[]
set_option maxRecDepth 100000 in
theorem vq_ref09_Need (d:Int × Int):gwp (cx_ref09_Need) (lp_ref09_Need d.1 d.2) c23 0 (gend [.tmp 2] (res_ref09_Need d) (obs_ref09_Need d)) (gstart 11 (AL.can al_ref09_Need d))=vc_ref09_Need d.1 d.2:=by kernel_rfl
abbrev Ok_ref09_Need:Prop:=OkC Tryz.prog 23 s_ref09_Need
theorem mk_ref09_Need (h:∀ (nc:Int) (ng:Int),(True)→vc_ref09_Need nc ng):OkC Tryz.prog 23 s_ref09_Need :=
 okC_vc fun23 mixed (C:=cx_ref09_Need) (V:=fun (d:Int × Int)=>vc_ref09_Need d.1 d.2) ⟨(.cons ok_ref09_In .nil),XsOk.nil,ItsOk.nil,YlOk.nil,IysOk.nil⟩ (vq_ref09_Need) fun d hp=>h d.1 d.2 hp
theorem ok_ref09_Need:Ok_ref09_Need:=mk_ref09_Need fun nc ng _=>by
 unfold vc_ref09_Need; (try delta lI gD sT I64)
 refine ⟨trivial,fun _=>trivial,?_⟩
 exact ⟨rfl,trivial⟩
end Go.Proofs.Tryz
set_option linter.unusedVariables false
namespace Go.Proofs.Tryz
open Go Go.V Go.Proofs
def al_ref09_Fill:AL ((List (Int × (Int × Int) × Int)) × Int × Int × Int):=(.cons (.k (.list (.pair (.i .i64) (.pair (.pair (.i .i64) (.i .i64)) (.i .i64))))) (.cons (.k (.i .i64)) (.one (.agg (.cons (.k (.i .i64)) (.one (.k (.i .i64))))))))
def pre_ref09_Fill (d:(List (Int × (Int × Int) × Int)) × Int × Int × Int):Prop:=d.1.length ≤ 12∧(∀ y ∈ d.1,lotOk y=true)
def res_ref09_Fill (d:(List (Int × (Int × Int) × Int)) × Int × Int × Int):SV:=.tup [.lst 0,.val .bo (!(fillK d.1 d.2.1 d.2.2.1 d.2.2.2 (2 ^ d.1.length)).isEmpty)]
def obs_ref09_Fill (d:(List (Int × (Int × Int) × Int)) × Int × Int × Int):List OB:=[.lst 3 (.i .i64) (fillK d.1 d.2.1 d.2.2.1 d.2.2.2 (2 ^ d.1.length)) false]
def s_ref09_Fill:CSp:=mkSp al_ref09_Fill pre_ref09_Fill res_ref09_Fill obs_ref09_Fill
def vc_ref09_Fill (l:List (Int × (Int × Int) × Int)) (tl:Int) (nc:Int) (ng:Int):Prop :=
 ∃ (e3:Unit) (d30:(List Int) × Bool × Int),((l=l∧tl=tl∧True∧True∧false=d30.2.1∧(1:Int)=d30.2.2∧True)∧((nc=nc∧ng=ng∧(([]:List SV)=[]))∧(([]:List Int)=d30.1∧false=false)∧True)) ∧
 LoopP (fun (d3:(List Int) × Bool × Int) (q3:((List Int) × Bool × Int)→Prop) =>
  (InK .u64 (lI l))∧(0 ≤ (lI l))∧(I64 (shlI .i64 (1:Int) (lI l)))∧((decide (d3.2.2 < (shlI .i64 (1:Int) (lI l))))=true →
   (0 ≤ (lI l)∧(lI l) ≤ 12∧0 ≤ d3.2.2∧d3.2.2 < 2 ^ (lI l).toNat)∧∃ (e6:(List Int) × Bool × Int × (List Int)) (d60:Int × Int),((l=l∧tl=tl∧True∧True∧d3.2.1=e6.2.1∧d3.2.2=e6.2.2.1∧True∧(0:Int)=d60.1∧(0:Int)=d60.2∧True)∧((nc=nc∧ng=ng∧(([]:List SV)=[]))∧(d3.1=e6.1∧false=false)∧((chosenK d3.2.2.toNat (lI l).toNat)=e6.2.2.2∧false=false)∧True)) ∧
   LoopP (fun (d6:Int × Int) (q6:(Int × Int)→Prop) =>
    ((decide (d6.2 < (lI e6.2.2.2)))=true →
     (0 ≤ d6.2)∧(d6.2 < (List.length e6.2.2.2))∧(0 ≤ (gD e6.2.2.2 d6.2 0))∧((gD e6.2.2.2 d6.2 0) < (List.length l))∧(I64 (d6.1 + (gD l (gD e6.2.2.2 d6.2 0) (0,((0,0),0))).2.2))∧(I64 (d6.2 + (1:Int)))∧(∃ d7:Int × Int,((l=l∧tl=tl∧True∧True∧e6.2.1=e6.2.1∧e6.2.2.1=e6.2.2.1∧True∧(d6.1 + (gD l (gD e6.2.2.2 d6.2 0) (0,((0,0),0))).2.2)=d7.1∧(d6.2 + (1:Int))=d7.2∧True)∧((nc=nc∧ng=ng∧(([]:List SV)=[]))∧(e6.1=e6.1∧false=false)∧(e6.2.2.2=e6.2.2.2∧false=false)∧True))∧q6 d7)) ∧
    ((decide (d6.2 < (lI e6.2.2.2)))=false →
     ((decide (d6.1 ≥ ng))=true→0 ≤ (0:Int))∧((decide (d6.1 ≥ ng))=true→(0:Int) < (List.length e6.2.2.2))∧((decide (d6.1 ≥ ng))=true→0 ≤ (gD e6.2.2.2 (0:Int) 0))∧((decide (d6.1 ≥ ng))=true→(gD e6.2.2.2 (0:Int) 0) < (List.length l))∧(((decide (d6.1 ≥ ng)) && ((gD l (gD e6.2.2.2 (0:Int) 0) (0,((0,0),0))).1 == nc))=true→(∀ y ∈ l,lotOk y=true)∧e6.2.2.2.length ≤ 1000∧∀ i ∈ e6.2.2.2,0 ≤ i∧i < l.length)∧((((decide (d6.1 ≥ ng)) && ((gD l (gD e6.2.2.2 (0:Int) 0) (0,((0,0),0))).1 == nc)) && (alikeR (pickL l e6.2.2.2) tl))=true→(!e6.2.1)=false→e6.2.2.2.length ≤ 1000∧e6.1.length ≤ 1000)∧(((((decide (d6.1 ≥ ng)) && ((gD l (gD e6.2.2.2 (0:Int) 0) (0,((0,0),0))).1 == nc)) && (alikeR (pickL l e6.2.2.2) tl)) && ((!e6.2.1) || (lessR e6.2.2.2 e6.1)))=true →
      (I64 (e6.2.2.1 + (1:Int)))∧(∃ d8:(List Int) × Bool × Int,((l=l∧tl=tl∧True∧True∧true=d8.2.1∧(e6.2.2.1 + (1:Int))=d8.2.2∧True)∧((nc=nc∧ng=ng∧(([]:List SV)=[]))∧(e6.2.2.2=d8.1∧false=false)∧True))∧q3 d8)) ∧
     (((((decide (d6.1 ≥ ng)) && ((gD l (gD e6.2.2.2 (0:Int) 0) (0,((0,0),0))).1 == nc)) && (alikeR (pickL l e6.2.2.2) tl)) && ((!e6.2.1) || (lessR e6.2.2.2 e6.1)))=false →
      (I64 (e6.2.2.1 + (1:Int)))∧(∃ d9:(List Int) × Bool × Int,((l=l∧tl=tl∧True∧True∧e6.2.1=d9.2.1∧(e6.2.2.1 + (1:Int))=d9.2.2∧True)∧((nc=nc∧ng=ng∧(([]:List SV)=[]))∧(e6.1=d9.1∧false=false)∧True))∧q3 d9)))) d60) ∧
  ((decide (d3.2.2 < (shlI .i64 (1:Int) (lI l))))=false →
   ((True∧d3.2.1=(!(fillK l tl nc ng (2 ^ l.length)).isEmpty)∧(([]:List SV)=[]))∧((d3.1=(fillK l tl nc ng (2 ^ l.length))∧false=false)∧True)))) d30
def cx_ref09_Fill:Cx:=⟨[(3,(.i .i64))],[(50,s_ref09_Chosen),(21,s_ref09_Alike),(54,s_ref09_Less)],77,[],0,[],[],[],[],false,[],[],[]⟩
def lp_ref09_Fill (l:List (Int × (Int × Int) × Int)) (tl:Int) (nc:Int) (ng:Int):List (Nat × LoopAnn):=[(0,⟨Unit,(List Int) × Bool × Int,[0,1,5,8,9,10],fun e x=>[.val (.list (.pair (.i .i64) (.pair (.pair (.i .i64) (.i .i64)) (.i .i64)))) l,.val (.i .i64) tl,.box 5 0,.lst 14,.val .bo x.2.1,.val (.i .i64) x.2.2],fun e x=>[(5,.slot 5,.cells [.val (.i .i64) nc,.val (.i .i64) ng] (some 41)),(14,.slot 8,.lst 3 (.i .i64) x.1 false)]⟩),
 (2,⟨(List Int) × Bool × Int × (List Int),Int × Int,[0,1,5,8,9,10,11,12,13],fun e x=>[.val (.list (.pair (.i .i64) (.pair (.pair (.i .i64) (.i .i64)) (.i .i64)))) l,.val (.i .i64) tl,.box 5 0,.lst 14,.val .bo e.2.1,.val (.i .i64) e.2.2.1,.lst 26,.val (.i .i64) x.1,.val (.i .i64) x.2],fun e x=>[(5,.slot 5,.cells [.val (.i .i64) nc,.val (.i .i64) ng] (some 41)),(14,.slot 8,.lst 3 (.i .i64) e.1 false),(26,.slot 11,.lst 3 (.i .i64) e.2.2.2 false)]⟩)]
set_option maxRecDepth 100000 in
theorem vq_ref09_Fill (d:(List (Int × (Int × Int) × Int)) × Int × Int × Int):gwp (cx_ref09_Fill) (lp_ref09_Fill d.1 d.2.1 d.2.2.1 d.2.2.2) c25 0 (gend [.tmp 6,.tmp 7] (res_ref09_Fill d) (obs_ref09_Fill d)) (gstart 77 (AL.can al_ref09_Fill d))=vc_ref09_Fill d.1 d.2.1 d.2.2.1 d.2.2.2:=by kernel_rfl
abbrev Ok_ref09_Fill:Prop:=OkC Tryz.prog 25 s_ref09_Fill
theorem mk_ref09_Fill (h:∀ (l:List (Int × (Int × Int) × Int)) (tl:Int) (nc:Int) (ng:Int),(l.length ≤ 12∧(∀ y ∈ l,lotOk y=true))→vc_ref09_Fill l tl nc ng):OkC Tryz.prog 25 s_ref09_Fill :=
 okC_vc fun25 mixed (C:=cx_ref09_Fill) (V:=fun (d:(List (Int × (Int × Int) × Int)) × Int × Int × Int)=>vc_ref09_Fill d.1 d.2.1 d.2.2.1 d.2.2.2) ⟨(.cons ok_ref09_Chosen (.cons ok_ref09_Alike (.cons ok_ref09_Less .nil))),XsOk.nil,ItsOk.nil,YlOk.nil,IysOk.nil⟩ (vq_ref09_Fill) fun d hp=>h d.1 d.2.1 d.2.2.1 d.2.2.2 hp
theorem ok_ref09_Fill:Ok_ref09_Fill:=mk_ref09_Fill fun l tl nc ng h=>by
 obtain ⟨h1,h2⟩:=h
 have hp2:2 ^ l.length ≤ 2 ^ 12:=Nat.pow_le_pow_right (by omega) h1
 have h12:(2:Nat) ^ 12=4096:=rfl
 have hp0:0 < 2 ^ l.length:=Nat.two_pow_pos _
 have hpi:(2:Int) ^ l.length=((2 ^ l.length:Nat):Int):=by simp
 unfold vc_ref09_Fill; (try delta lI gD sT I64)
 have hsh:shlI .i64 1 (l.length:Int)=((2 ^ l.length:Nat):Int):=by
  unfold shlI
  rw [Int.toNat_natCast,show Nat.min l.length (IntKind.bits .i64)=l.length from Nat.min_eq_left (show l.length ≤ 64 by omega),Int.one_mul]; exact hpi
 have hd:∀ j,l.getD j (0,((0,0),0))=l.getD j lotD:=fun _=>rfl
 simp only [hsh,hd,Int.toNat_natCast]
 refine ⟨(),([],false,1),(by and_intros <;> first | rfl | trivial | simp),?_⟩
 refine ⟨fun d=>∃ s:Nat,d.2.2=s∧1 ≤ s∧s ≤ 2 ^ l.length∧d.1=fillK l tl nc ng s∧d.2.1=!(fillK l tl nc ng s).isEmpty,fun d=>2 ^ l.length - d.2.2.toNat,⟨1,rfl,by omega,by omega,rfl,rfl⟩,?_⟩
 rintro ⟨_,_,_⟩ ⟨s,rfl,i1,i2,rfl,rfl⟩
 dsimp only
 have hfl:=fillK_len (tl:=tl) (nc:=nc) (ng:=ng) (show l.length ≤ 64 by omega) s i2
 have hK:fillK l tl nc ng (s + 1)=if fillOk l tl nc ng s && ((fillK l tl nc ng s).isEmpty || lessF (setL s) (fillK l tl nc ng s)) then setL s else fillK l tl nc ng s:=by
  conv=>lhs; unfold fillK
  rw [if_neg (by omega)]
 simp only [Int.toNat_natCast]
 refine ⟨by rw [InK_u64]; omega,by omega,by rw [InK_i64]; omega,fun hlt=>?_,fun hge=>?_⟩
 ·have hlt:=of_decide_eq_true hlt
  have hs:s < 2 ^ l.length:=by omega
  have hSl:=setL_small hs (show l.length ≤ 64 by omega)
  have hSn:=setL_ne (show 0 < s by omega)
  have hS0:0 < (setL s).length:=List.length_pos_iff.2 hSn
  have hlts:=setL_lt hs (show l.length ≤ 64 by omega)
  have hsi:(s:Int) < 2 ^ l.length:=by rw [hpi]; omega
  have hpne:pickL l (setL s) ≠ []:=by simpa [pickL] using hSn
  rw [←setL_chosen hs (show l.length ≤ 64 by omega)]
  have hcond:((((decide (gramsL l (setL s) ≥ ng)) && ((l.getD ((setL s).getD 0 0).toNat lotD).1 == nc)) && alikeR (pickL l (setL s)) tl) && ((!(!(fillK l tl nc ng s).isEmpty)) || lessR (setL s) (fillK l tl nc ng s)))=(fillOk l tl nc ng s && ((fillK l tl nc ng s).isEmpty || lessF (setL s) (fillK l tl nc ng s))):=by
   unfold fillOk alikeL
   rw [less_eq,alike_law hpne,Bool.not_not]
   congr 2
   rw [Bool.and_comm]
  generalize setL s=S at *
  refine ⟨⟨by omega,by omega,by omega,hsi⟩,(fillK l tl nc ng s,!(fillK l tl nc ng s).isEmpty,(s:Int),S),(0,0),(by and_intros <;> first | rfl | trivial | simp),?_⟩
  refine LoopP.count2 S.length (fun k a=>a=gramsL l (S.take k)∧0 ≤ a∧a ≤ 1000000 * (k:Int)) ⟨rfl,by omega,by omega⟩ fun k a hk hJ q hq=>?_
  obtain ⟨rfl,j2,j3⟩:=hJ
  dsimp only
  simp only [Int.toNat_natCast]
  refine ⟨fun hlt2=>?_,fun hge2=>?_⟩
  ·have hlt2:=of_decide_eq_true hlt2
   have hkS:k < S.length:=by omega
   have hm:=hlts _ (by rw [getD_nat hkS]; exact List.getElem_mem hkS:S.getD k 0 ∈ S)
   have hj:(S.getD k 0).toNat < l.length:=by omega
   have hg:=lotOk_iff.1 (h2 _ (List.getElem_mem hj))
   have hgr:1 ≤ (l.getD (S.getD k 0).toNat lotD).2.2∧(l.getD (S.getD k 0).toNat lotD).2.2 ≤ 1000000:=by rw [getD_nat hj]; omega
   have hs:=grams_snoc (l:=l) hkS
   refine ⟨by omega,hlt2,hm.1,hm.2,by rw [InK_i64]; omega,by rw [InK_i64]; omega,(gramsL l (S.take k) + (l.getD (S.getD k 0).toNat lotD).2.2,(k:Int) + 1),(by and_intros <;> first | rfl | trivial | simp),hq _ hkS ⟨hs.symm,by omega,by omega⟩⟩
  ·have hge2:=of_decide_eq_false hge2
   have:k=S.length:=by omega
   subst this
   rw [List.take_length] at *
   have hm:=hlts _ (by rw [getD_nat hS0]; exact List.getElem_mem hS0:S.getD 0 0 ∈ S)
   have hz:((0:Int)).toNat=0:=rfl
   simp only [hz,hcond]
   refine ⟨fun _=>by omega,fun _=>by omega,fun _=>hm.1,fun _=>hm.2,fun _=>⟨h2,by omega,hlts⟩,fun _ _=>⟨by omega,by omega⟩,fun hx=>⟨by rw [InK_i64]; omega,(S,true,(s:Int) + 1),(by and_intros <;> first | rfl | trivial | simp),⟨s + 1,rfl,by omega,by omega,?_,?_⟩,by show 2 ^ l.length - ((s:Int) + 1).toNat < 2 ^ l.length - s; omega⟩,fun hx=>⟨by rw [InK_i64]; omega,(fillK l tl nc ng s,!(fillK l tl nc ng s).isEmpty,(s:Int) + 1),(by and_intros <;> first | rfl | trivial | simp),⟨s + 1,rfl,by omega,by omega,?_,?_⟩,by show 2 ^ l.length - ((s:Int) + 1).toNat < 2 ^ l.length - s; omega⟩⟩
   ·rw [hK,hx]; rfl
   ·rw [hK,hx,if_pos rfl]
    cases S with
    | nil=>exact (hSn rfl).elim
    | cons a b=>rfl
   ·rw [hK,hx]; rfl
   ·rw [hK,hx]; rfl
 ·have hge:=of_decide_eq_false hge
  have:s=2 ^ l.length:=by omega
  subst this
  exact (by and_intros <;> first | rfl | trivial | simp)
end Go.Proofs.Tryz
set_option linter.unusedVariables false
namespace Go.Proofs.Tryz
open Go Go.V Go.Proofs
theorem fillK_1000 {l:List Lot} {tl nc ng:Int} (h:l.length ≤ 12):(fillK l tl nc ng (2 ^ l.length)).length ≤ 1000:=by
 have:=fillK_len (tl:=tl) (nc:=nc) (ng:=ng) (show l.length ≤ 64 by omega) (2 ^ l.length) (Nat.le_refl _)
 omega
end Go.Proofs.Tryz
set_option linter.unusedVariables false
namespace Go.Proofs.Tryz
open Go Go.V Go.Proofs
def wayS (l:List Lot) (tl:Int) (n:List (Int × Int)) (i:Nat):Int :=
 if needOk (n.getD i (0,0)).1 (n.getD i (0,0)).2=false then 2 else if ((n.take i).any fun x=>x.1 == (n.getD i (0,0)).1)=true then 6
 else if (fillK l tl (n.getD i (0,0)).1 (n.getD i (0,0)).2 (2 ^ l.length)).isEmpty=true then 7 else 0
def wayF (l:List Lot) (tl:Int) (n:List (Int × Int)):Option Nat:=(List.range n.length).find? fun i=>wayS l tl n i != 0
def openW (l:List Lot) (tl:Int) (n:List (Int × Int)):Int:=if openErr l tl ≠ 0 then openErr l tl else if 10 < n.length then 5 else 0
def wayErr (l:List Lot) (tl:Int) (n:List (Int × Int)):Int:=if openW l tl n ≠ 0 then openW l tl n else match wayF l tl n with | some i=>wayS l tl n i | none=>0
def wayAt (l:List Lot) (tl:Int) (n:List (Int × Int)):Int:=if openW l tl n ≠ 0 then 0 else match wayF l tl n with | some i=>(i:Int) | none=>0
def wayL (l:List Lot) (tl:Int) (n:List (Int × Int)) (k:Nat):List (List Int):=(n.take k).map fun x=>fillK l tl x.1 x.2 (2 ^ l.length)
def wayW (l:List Lot) (tl:Int) (n:List (Int × Int)):List (List Int):=if wayErr l tl n=0 then wayL l tl n n.length else []
theorem way_open {l:List Lot} {tl:Int} {n:List (Int × Int)} (h:openW l tl n ≠ 0):wayErr l tl n=openW l tl n∧wayAt l tl n=0∧wayW l tl n=[]:=by
 have e:wayErr l tl n=openW l tl n:=by unfold wayErr; rw [if_pos h]
 refine ⟨e,by unfold wayAt; rw [if_pos h],by unfold wayW; rw [e,if_neg h]⟩
theorem way_at {l:List Lot} {tl:Int} {n:List (Int × Int)} {k:Nat} (h:openW l tl n=0) (hj:∀ j,j < k→wayS l tl n j=0) (hk:k < n.length) (hs:wayS l tl n k ≠ 0):wayErr l tl n=wayS l tl n k∧wayAt l tl n=k∧wayW l tl n=[]:=by
 have f:wayF l tl n=some k:=by
  unfold wayF
  rw [List.find?_eq_some_iff_getElem]
  refine ⟨by simpa using hs,k,by simpa using hk,by simp,fun j hj2=>?_⟩
  rw [List.getElem_range,hj j hj2]; rfl
 have e:wayErr l tl n=wayS l tl n k:=by unfold wayErr; rw [if_neg (by omega),f]
 refine ⟨e,by unfold wayAt; rw [if_neg (by omega),f],by unfold wayW; rw [e,if_neg hs]⟩
theorem way_end {l:List Lot} {tl:Int} {n:List (Int × Int)} (h:openW l tl n=0) (hj:∀ j,j < n.length→wayS l tl n j=0):wayErr l tl n=0∧wayAt l tl n=0∧wayW l tl n=wayL l tl n n.length:=by
 have f:wayF l tl n=none:=by
  unfold wayF
  rw [List.find?_eq_none]
  intro x hx
  rw [List.mem_range] at hx
  rw [hj x hx]; decide
 have e:wayErr l tl n=0:=by unfold wayErr; rw [if_neg (by omega),f]
 refine ⟨e,by unfold wayAt; rw [if_neg (by omega),f],by unfold wayW; rw [e,if_pos rfl]⟩
theorem wayL_succ {l:List Lot} {tl:Int} {n:List (Int × Int)} {k:Nat} (h:k < n.length):wayL l tl n (k + 1)=wayL l tl n k++[fillK l tl (n.getD k (0,0)).1 (n.getD k (0,0)).2 (2 ^ l.length)]:=by
 unfold wayL; rw [take_succ_eq h,List.map_append,getD_nat h]; rfl
theorem wayL_len {l:List Lot} {tl:Int} {n:List (Int × Int)} {k:Nat} (h:k ≤ n.length):(wayL l tl n k).length=k:=by
 unfold wayL; simp; omega
theorem wayL_le {l:List Lot} {tl:Int} {n:List (Int × Int)} {k:Nat} (h:l.length ≤ 12):∀ x ∈ wayL l tl n k,x.length ≤ 1000:=by
 intro x hx
 unfold wayL at hx
 obtain ⟨y,_,rfl⟩:=List.mem_map.1 hx
 exact fillK_1000 h
theorem wayL_nonempty {l:List Lot} {tl:Int} {n:List (Int × Int)} {k:Nat} (h:k < n.length):(wayL l tl n (k + 1)).isEmpty=false:=by
 rw [wayL_succ h]; simp
end Go.Proofs.Tryz
set_option linter.unusedVariables false
namespace Go.Proofs.Tryz
open Go Go.V Go.Proofs
def al_slices_IndexFunc_api_ShadeNeed_api_ShadeNeed:AL ((List (Int × Int)) × ((Int × Int→Prop) × (Int × Int→Bool))):=(.cons (.k (.list (.pair (.i .i64) (.i .i64)))) (.one (.fn [(.pair (.i .i64) (.i .i64))] .bo)))
def pre_slices_IndexFunc_api_ShadeNeed_api_ShadeNeed (d:(List (Int × Int)) × ((Int × Int→Prop) × (Int × Int→Bool))):Prop:=d.1.length ≤ 1000000∧∀ x ∈ d.1,d.2.1 x
def res_slices_IndexFunc_api_ShadeNeed_api_ShadeNeed (d:(List (Int × Int)) × ((Int × Int→Prop) × (Int × Int→Bool))):SV:=.val (.i .i64) (idxG d.1 d.2.2)
def obs_slices_IndexFunc_api_ShadeNeed_api_ShadeNeed (d:(List (Int × Int)) × ((Int × Int→Prop) × (Int × Int→Bool))):List OB:=[]
def s_slices_IndexFunc_api_ShadeNeed_api_ShadeNeed:CSp:=mkSp al_slices_IndexFunc_api_ShadeNeed_api_ShadeNeed pre_slices_IndexFunc_api_ShadeNeed_api_ShadeNeed res_slices_IndexFunc_api_ShadeNeed_api_ShadeNeed obs_slices_IndexFunc_api_ShadeNeed_api_ShadeNeed
def vc_slices_IndexFunc_api_ShadeNeed_api_ShadeNeed (l:List (Int × Int)) (p:(Int × Int→Prop) × (Int × Int→Bool)):Prop :=
 ∃ (e2:Unit) (d20:Int),((l=l∧(SV.pf [(.pair (.i .i64) (.i .i64))] .bo p.1 p.2=SV.pf [(.pair (.i .i64) (.i .i64))] .bo p.1 p.2)∧(lI l)=(lI l)∧(0:Int)=d20∧True)∧(True)) ∧
 LoopP (fun (d2:Int) (q2:(Int)→Prop) =>
  ((decide (d2 < (lI l)))=true →
   (0 ≤ d2)∧(d2 < (List.length l))∧(p.1 ((gD l d2 (0,0)).1,(gD l d2 (0,0)).2))∧((p.2 ((gD l d2 (0,0)).1,(gD l d2 (0,0)).2))=true →
    (d2=(idxG l p.2)∧(True))) ∧
   ((p.2 ((gD l d2 (0,0)).1,(gD l d2 (0,0)).2))=false →
    (I64 (d2 + (1:Int)))∧(∃ d3:Int,((l=l∧(SV.pf [(.pair (.i .i64) (.i .i64))] .bo p.1 p.2=SV.pf [(.pair (.i .i64) (.i .i64))] .bo p.1 p.2)∧(lI l)=(lI l)∧(d2 + (1:Int))=d3∧True)∧(True))∧q2 d3))) ∧
  ((decide (d2 < (lI l)))=false →
   ((-1:Int)=(idxG l p.2)∧(True)))) d20
def cx_slices_IndexFunc_api_ShadeNeed_api_ShadeNeed:Cx:=⟨[],[],19,[],0,[],[],[],[],false,[],[],[]⟩
def lp_slices_IndexFunc_api_ShadeNeed_api_ShadeNeed (l:List (Int × Int)) (p:(Int × Int→Prop) × (Int × Int→Bool)):List (Nat × LoopAnn):=[(0,⟨Unit,Int,[0,1,7,8],fun e x=>[.val (.list (.pair (.i .i64) (.i .i64))) l,.pf [(.pair (.i .i64) (.i .i64))] .bo p.1 p.2,.val (.i .i64) (((List.length l):Nat):Int),.val (.i .i64) x],fun e x=>[]⟩)]
set_option maxRecDepth 100000 in
theorem vq_slices_IndexFunc_api_ShadeNeed_api_ShadeNeed (d:(List (Int × Int)) × ((Int × Int→Prop) × (Int × Int→Bool))):gwp (cx_slices_IndexFunc_api_ShadeNeed_api_ShadeNeed) (lp_slices_IndexFunc_api_ShadeNeed_api_ShadeNeed d.1 d.2) c93 0 (gend [.tmp 4] (res_slices_IndexFunc_api_ShadeNeed_api_ShadeNeed d) (obs_slices_IndexFunc_api_ShadeNeed_api_ShadeNeed d)) (gstart 19 (AL.can al_slices_IndexFunc_api_ShadeNeed_api_ShadeNeed d))=vc_slices_IndexFunc_api_ShadeNeed_api_ShadeNeed d.1 d.2:=by kernel_rfl
abbrev Ok_slices_IndexFunc_api_ShadeNeed_api_ShadeNeed:Prop:=OkC Tryz.prog 93 s_slices_IndexFunc_api_ShadeNeed_api_ShadeNeed
theorem mk_slices_IndexFunc_api_ShadeNeed_api_ShadeNeed (h:∀ (l:List (Int × Int)) (p:(Int × Int→Prop) × (Int × Int→Bool)),(l.length ≤ 1000000∧∀ x ∈ l,p.1 x)→vc_slices_IndexFunc_api_ShadeNeed_api_ShadeNeed l p):OkC Tryz.prog 93 s_slices_IndexFunc_api_ShadeNeed_api_ShadeNeed :=
 okC_vc fun93 mixed (C:=cx_slices_IndexFunc_api_ShadeNeed_api_ShadeNeed) (V:=fun (d:(List (Int × Int)) × ((Int × Int→Prop) × (Int × Int→Bool)))=>vc_slices_IndexFunc_api_ShadeNeed_api_ShadeNeed d.1 d.2) ⟨.nil,XsOk.nil,ItsOk.nil,YlOk.nil,IysOk.nil⟩ (vq_slices_IndexFunc_api_ShadeNeed_api_ShadeNeed) fun d hp=>h d.1 d.2 hp
theorem ok_slices_IndexFunc_api_ShadeNeed_api_ShadeNeed:Ok_slices_IndexFunc_api_ShadeNeed_api_ShadeNeed:=mk_slices_IndexFunc_api_ShadeNeed_api_ShadeNeed fun l p hp=>by
 unfold vc_slices_IndexFunc_api_ShadeNeed_api_ShadeNeed; (try delta lI gD sT I64); simp only [true_and,and_true,exists_eq_left',exists_const,decide_eq_true_eq,decide_eq_false_iff_not]
 refine LoopP.count l.length (fun k=>(l.take k).any p.2=false) (by simp) fun k hk1 hJ q hq=>?_
 simp only [Int.toNat_natCast,Int.ofNat_lt,InK_i64]
 refine ⟨fun hlt=>?_,fun hge=>?_⟩
 ·have hlt:k < l.length:=by omega
  rw [getD_nat hlt]
  refine ⟨by omega,by omega,hp.2 _ (List.getElem_mem hlt),fun hx=>?_,fun hx=>⟨by omega,hq hlt ?_⟩⟩
  ·rw [idxG_some hlt hx hJ]
  ·rw [take_succ_eq hlt,List.any_append,hJ]; simp [hx]
 ·rw [List.take_of_length_le (by omega)] at hJ
  rw [idxG_none hJ]
def al_slices_ContainsFunc_api_ShadeNeed_api_ShadeNeed:AL ((List (Int × Int)) × ((Int × Int→Prop) × (Int × Int→Bool))):=(.cons (.k (.list (.pair (.i .i64) (.i .i64)))) (.one (.fn [(.pair (.i .i64) (.i .i64))] .bo)))
def pre_slices_ContainsFunc_api_ShadeNeed_api_ShadeNeed (d:(List (Int × Int)) × ((Int × Int→Prop) × (Int × Int→Bool))):Prop:=d.1.length ≤ 1000000∧∀ x ∈ d.1,d.2.1 x
def res_slices_ContainsFunc_api_ShadeNeed_api_ShadeNeed (d:(List (Int × Int)) × ((Int × Int→Prop) × (Int × Int→Bool))):SV:=.val .bo (d.1.any d.2.2)
def obs_slices_ContainsFunc_api_ShadeNeed_api_ShadeNeed (d:(List (Int × Int)) × ((Int × Int→Prop) × (Int × Int→Bool))):List OB:=[]
def s_slices_ContainsFunc_api_ShadeNeed_api_ShadeNeed:CSp:=mkSp al_slices_ContainsFunc_api_ShadeNeed_api_ShadeNeed pre_slices_ContainsFunc_api_ShadeNeed_api_ShadeNeed res_slices_ContainsFunc_api_ShadeNeed_api_ShadeNeed obs_slices_ContainsFunc_api_ShadeNeed_api_ShadeNeed
def vc_slices_ContainsFunc_api_ShadeNeed_api_ShadeNeed (l:List (Int × Int)) (p:(Int × Int→Prop) × (Int × Int→Bool)):Prop :=
 (l.length ≤ 1000000∧∀ x ∈ l,(fun (x1:Int × Int)=>p.1 (x1.1,x1.2)) x)∧((decide ((idxG l (fun (x1:Int × Int)=>(p.2 (x1.1,x1.2)))) ≥ (0:Int)))=(l.any p.2)∧(True))
def cx_slices_ContainsFunc_api_ShadeNeed_api_ShadeNeed:Cx:=⟨[],[(93,s_slices_IndexFunc_api_ShadeNeed_api_ShadeNeed)],9,[],0,[],[],[],[],false,[],[],[]⟩
def lp_slices_ContainsFunc_api_ShadeNeed_api_ShadeNeed (l:List (Int × Int)) (p:(Int × Int→Prop) × (Int × Int→Bool)):List (Nat × LoopAnn):=[]
set_option maxRecDepth 100000 in
theorem vq_slices_ContainsFunc_api_ShadeNeed_api_ShadeNeed (d:(List (Int × Int)) × ((Int × Int→Prop) × (Int × Int→Bool))):gwp (cx_slices_ContainsFunc_api_ShadeNeed_api_ShadeNeed) (lp_slices_ContainsFunc_api_ShadeNeed_api_ShadeNeed d.1 d.2) c71 0 (gend [.tmp 4] (res_slices_ContainsFunc_api_ShadeNeed_api_ShadeNeed d) (obs_slices_ContainsFunc_api_ShadeNeed_api_ShadeNeed d)) (gstart 9 (AL.can al_slices_ContainsFunc_api_ShadeNeed_api_ShadeNeed d))=vc_slices_ContainsFunc_api_ShadeNeed_api_ShadeNeed d.1 d.2:=by kernel_rfl
abbrev Ok_slices_ContainsFunc_api_ShadeNeed_api_ShadeNeed:Prop:=OkC Tryz.prog 71 s_slices_ContainsFunc_api_ShadeNeed_api_ShadeNeed
theorem mk_slices_ContainsFunc_api_ShadeNeed_api_ShadeNeed (h:∀ (l:List (Int × Int)) (p:(Int × Int→Prop) × (Int × Int→Bool)),(l.length ≤ 1000000∧∀ x ∈ l,p.1 x)→vc_slices_ContainsFunc_api_ShadeNeed_api_ShadeNeed l p):OkC Tryz.prog 71 s_slices_ContainsFunc_api_ShadeNeed_api_ShadeNeed :=
 okC_vc fun71 mixed (C:=cx_slices_ContainsFunc_api_ShadeNeed_api_ShadeNeed) (V:=fun (d:(List (Int × Int)) × ((Int × Int→Prop) × (Int × Int→Bool)))=>vc_slices_ContainsFunc_api_ShadeNeed_api_ShadeNeed d.1 d.2) ⟨(.cons ok_slices_IndexFunc_api_ShadeNeed_api_ShadeNeed .nil),XsOk.nil,ItsOk.nil,YlOk.nil,IysOk.nil⟩ (vq_slices_ContainsFunc_api_ShadeNeed_api_ShadeNeed) fun d hp=>h d.1 d.2 hp
theorem ok_slices_ContainsFunc_api_ShadeNeed_api_ShadeNeed:Ok_slices_ContainsFunc_api_ShadeNeed_api_ShadeNeed:=mk_slices_ContainsFunc_api_ShadeNeed_api_ShadeNeed fun l p hp=>by
 simp only [vc_slices_ContainsFunc_api_ShadeNeed_api_ShadeNeed]
 exact ⟨hp,idxG_any l p.2,trivial⟩
def al_shade_Way_1:AL ((Int × Int) × Int × Int):=(.cons (.agg (.cons (.k (.i .i64)) (.one (.k (.i .i64))))) (.one (.ptr (.cons (.k (.i .i64)) (.one (.k (.i .i64)))))))
def pre_shade_Way_1 (d:(Int × Int) × Int × Int):Prop:=True
def res_shade_Way_1 (d:(Int × Int) × Int × Int):SV:=.val .bo (d.1.1 == d.2.1)
def obs_shade_Way_1 (d:(Int × Int) × Int × Int):List OB:=[]
def s_shade_Way_1:CSp:=mkSp al_shade_Way_1 pre_shade_Way_1 res_shade_Way_1 obs_shade_Way_1
def vc_shade_Way_1 (nc:Int) (ng:Int) (mc:Int) (mg:Int):Prop :=
 ((nc == mc)=(nc == mc)∧(True))
def cx_shade_Way_1:Cx:=⟨[],[],9,[],0,[],[],[],[],false,[],[],[]⟩
def lp_shade_Way_1 (nc:Int) (ng:Int) (mc:Int) (mg:Int):List (Nat × LoopAnn):=[]
set_option maxRecDepth 100000 in
theorem vq_shade_Way_1 (d:(Int × Int) × Int × Int):gwp (cx_shade_Way_1) (lp_shade_Way_1 d.1.1 d.1.2 d.2.1 d.2.2) c72 0 (gend [.tmp 3] (res_shade_Way_1 d) (obs_shade_Way_1 d)) (gstart 9 (AL.can al_shade_Way_1 d))=vc_shade_Way_1 d.1.1 d.1.2 d.2.1 d.2.2:=by kernel_rfl
abbrev Ok_shade_Way_1:Prop:=OkC Tryz.prog 72 s_shade_Way_1
theorem mk_shade_Way_1 (h:∀ (nc:Int) (ng:Int) (mc:Int) (mg:Int),(True)→vc_shade_Way_1 nc ng mc mg):OkC Tryz.prog 72 s_shade_Way_1 :=
 okC_vc fun72 mixed (C:=cx_shade_Way_1) (V:=fun (d:(Int × Int) × Int × Int)=>vc_shade_Way_1 d.1.1 d.1.2 d.2.1 d.2.2) ⟨.nil,XsOk.nil,ItsOk.nil,YlOk.nil,IysOk.nil⟩ (vq_shade_Way_1) fun d hp=>h d.1.1 d.1.2 d.2.1 d.2.2 hp
theorem ok_shade_Way_1:Ok_shade_Way_1:=mk_shade_Way_1 fun nc ng mc mg _=>by
 unfold vc_shade_Way_1; (try delta lI gD sT I64)
 exact (by and_intros <;> first | rfl | trivial | simp)
def al_law09_needs:AL (List (Int × Int)):=(.one (.k (.list (.pair (.i .i64) (.i .i64)))))
def pre_law09_needs (d:List (Int × Int)):Prop:=d.length ≤ 1000
def res_law09_needs (d:List (Int × Int)):SV:=.lst 0
def obs_law09_needs (d:List (Int × Int)):List OB:=[.lst 41 (.pair (.i .i64) (.i .i64)) d false]
def s_law09_needs:CSp:=mkSp al_law09_needs pre_law09_needs res_law09_needs obs_law09_needs
def vc_law09_needs (l:List (Int × Int)):Prop :=
 (((List.length ([]:List (Int × Int))) + (List.length l)) * 16 ≤ 70368744177664)∧(True∧(((([]:List (Int × Int))++l)=l∧((List.isEmpty l) && false)=false)∧True))
def cx_law09_needs:Cx:=⟨[(41,(.pair (.i .i64) (.i .i64)))],[],6,[],0,[],[],[],[],false,[],[],[]⟩
def lp_law09_needs (l:List (Int × Int)):List (Nat × LoopAnn):=[]
set_option maxRecDepth 100000 in
theorem vq_law09_needs (d:List (Int × Int)):gwp (cx_law09_needs) (lp_law09_needs d) c41 0 (gend [.tmp 2] (res_law09_needs d) (obs_law09_needs d)) (gstart 6 (AL.can al_law09_needs d))=vc_law09_needs d:=by kernel_rfl
abbrev Ok_law09_needs:Prop:=OkC Tryz.prog 41 s_law09_needs
theorem mk_law09_needs (h:∀ (l:List (Int × Int)),(l.length ≤ 1000)→vc_law09_needs l):OkC Tryz.prog 41 s_law09_needs :=
 okC_vc fun41 mixed (C:=cx_law09_needs) (V:=fun (d:List (Int × Int))=>vc_law09_needs d) ⟨.nil,XsOk.nil,ItsOk.nil,YlOk.nil,IysOk.nil⟩ (vq_law09_needs) fun d hp=>h d hp
theorem ok_law09_needs:Ok_law09_needs:=mk_law09_needs fun l h=>by
 unfold vc_law09_needs; (try delta lI gD sT I64)
 refine ⟨by simp only [List.length_nil]; omega,?_⟩
 simp
def al_shade_Way:AL ((List (Int × (Int × Int) × Int)) × Int × List (Int × Int)):=(.cons (.k (.list (.pair (.i .i64) (.pair (.pair (.i .i64) (.i .i64)) (.i .i64))))) (.cons (.k (.i .i64)) (.one (.k (.list (.pair (.i .i64) (.i .i64)))))))
def pre_shade_Way (d:(List (Int × (Int × Int) × Int)) × Int × List (Int × Int)):Prop:=d.1.length ≤ 1000∧d.2.2.length ≤ 1000
def res_shade_Way (d:(List (Int × (Int × Int) × Int)) × Int × List (Int × Int)):SV:=.tup [.dd 0 .out,.val (.i .i64) (wayAt d.1 d.2.1 d.2.2),.val (.i .i64) (wayErr d.1 d.2.1 d.2.2)]
def obs_shade_Way (d:(List (Int × (Int × Int) × Int)) × Int × List (Int × Int)):List OB:=[.deep 31 (some 3) (.list (.i .i64)) (wayW d.1 d.2.1 d.2.2) ((wayW d.1 d.2.1 d.2.2).isEmpty) none]
def s_shade_Way:CSp:=mkSp al_shade_Way pre_shade_Way res_shade_Way obs_shade_Way
def vc_shade_Way (l:List (Int × (Int × Int) × Int)) (tl:Int) (n:List (Int × Int)):Prop :=
 ∀ w1:List Value,(l.length ≤ 1000)∧(((lotsErr l) == (0:Int))=true→True)∧(((lotsErr l) == (0:Int))=true→[tl].length ≤ 1000000)∧((((lotsErr l) == (0:Int)) && (!(!([tl].any fun n=>decide (n < (0:Int)) || decide ((1000:Int) < n)))))=true →
  w1=w1∧(((3:Int) != (0:Int))=true →
   ((True∧(0:Int)=(wayAt l tl n)∧(3:Int)=(wayErr l tl n)∧(([]:List SV)=[]))∧(((wayW l tl n)=[]∧(wayW l tl n).isEmpty=true)∧True))) ∧
  (((3:Int) != (0:Int))=false →
   ((decide ((lI n) > (10:Int)))=true →
    ((True∧(0:Int)=(wayAt l tl n)∧(5:Int)=(wayErr l tl n)∧(([]:List SV)=[]))∧(((wayW l tl n)=[]∧(wayW l tl n).isEmpty=true)∧True))) ∧
   ((decide ((lI n) > (10:Int)))=false →
    ∃ (e5:Unit) (d50:(List (List Int)) × Int),((n=n∧True∧True∧n=n∧(lI n)=(lI n)∧(0:Int)=d50.2∧True)∧((d50.1=[]∧(List.isEmpty d50.1)=true)∧(l=l∧tl=tl∧(([]:List SV)=[]))∧True)) ∧
    LoopP (fun (d5:(List (List Int)) × Int) (q5:((List (List Int)) × Int)→Prop) =>
     ((decide (d5.2 < (lI n)))=true →
      (0 ≤ d5.2)∧(d5.2 < (List.length n))∧(True)∧((!(needOk ((gD n d5.2 (0,0)).1) ((gD n d5.2 (0,0)).2)))=true →
       ((True∧d5.2=(wayAt l tl n)∧(2:Int)=(wayErr l tl n)∧(([]:List SV)=[]))∧(((wayW l tl n)=[]∧(wayW l tl n).isEmpty=true)∧True))) ∧
      ((!(needOk ((gD n d5.2 (0,0)).1) ((gD n d5.2 (0,0)).2)))=false →
       (0 ≤ (0:Int))∧((0:Int) ≤ d5.2)∧(d5.2 ≤ (List.length n))∧((List.take (Int.toNat (d5.2 - (0:Int))) (List.drop (Int.toNat (0:Int)) n)).length ≤ 1000000∧∀ x ∈ (List.take (Int.toNat (d5.2 - (0:Int))) (List.drop (Int.toNat (0:Int)) n)),(fun (x1:Int × Int)=>True) x)∧(((List.take (Int.toNat (d5.2 - (0:Int))) (List.drop (Int.toNat (0:Int)) n)).any (fun (x1:Int × Int)=>(x1.1 == ((gD n d5.2 (0,0)).1))))=true →
        ((True∧d5.2=(wayAt l tl n)∧(6:Int)=(wayErr l tl n)∧(([]:List SV)=[]))∧(((wayW l tl n)=[]∧(wayW l tl n).isEmpty=true)∧True))) ∧
       (((List.take (Int.toNat (d5.2 - (0:Int))) (List.drop (Int.toNat (0:Int)) n)).any (fun (x1:Int × Int)=>(x1.1 == ((gD n d5.2 (0,0)).1))))=false →
        (l.length ≤ 12∧(∀ y ∈ l,lotOk y=true))∧(((if (fillK l tl ((gD n d5.2 (0,0)).1) ((gD n d5.2 (0,0)).2) (2 ^ l.length)).isEmpty then 7 else 0) != (0:Int))=true →
         ((True∧d5.2=(wayAt l tl n)∧(if (fillK l tl ((gD n d5.2 (0,0)).1) ((gD n d5.2 (0,0)).2) (2 ^ l.length)).isEmpty then 7 else 0)=(wayErr l tl n)∧(([]:List SV)=[]))∧(((wayW l tl n)=[]∧(wayW l tl n).isEmpty=true)∧True))) ∧
        (((if (fillK l tl ((gD n d5.2 (0,0)).1) ((gD n d5.2 (0,0)).2) (2 ^ l.length)).isEmpty then 7 else 0) != (0:Int))=false →
         (((List.length d5.1) + (List.length [(fillK l tl ((gD n d5.2 (0,0)).1) ((gD n d5.2 (0,0)).2) (2 ^ l.length))])) * 24 ≤ 70368744177664)∧(I64 (d5.2 + (1:Int)))∧(∃ d6:(List (List Int)) × Int,((n=n∧True∧True∧n=n∧(lI n)=(lI n)∧(d5.2 + (1:Int))=d6.2∧True)∧(((d5.1++[(fillK l tl ((gD n d5.2 (0,0)).1) ((gD n d5.2 (0,0)).2) (2 ^ l.length))])=d6.1∧false=(List.isEmpty d6.1))∧(l=l∧tl=tl∧(([]:List SV)=[]))∧True))∧q5 d6))))) ∧
     ((decide (d5.2 < (lI n)))=false →
      ((True∧(0:Int)=(wayAt l tl n)∧(0:Int)=(wayErr l tl n)∧(([]:List SV)=[]))∧((d5.1=(wayW l tl n)∧(List.isEmpty d5.1)=(wayW l tl n).isEmpty)∧True)))) d50))) ∧
 ((((lotsErr l) == (0:Int)) && (!(!([tl].any fun n=>decide (n < (0:Int)) || decide ((1000:Int) < n)))))=false →
  w1=w1∧(((lotsErr l) != (0:Int))=true →
   ((True∧(0:Int)=(wayAt l tl n)∧(lotsErr l)=(wayErr l tl n)∧(([]:List SV)=[]))∧(((wayW l tl n)=[]∧(wayW l tl n).isEmpty=true)∧True))) ∧
  (((lotsErr l) != (0:Int))=false →
   ((decide ((lI n) > (10:Int)))=true →
    ((True∧(0:Int)=(wayAt l tl n)∧(5:Int)=(wayErr l tl n)∧(([]:List SV)=[]))∧(((wayW l tl n)=[]∧(wayW l tl n).isEmpty=true)∧True))) ∧
   ((decide ((lI n) > (10:Int)))=false →
    ∃ (e10:Unit) (d100:(List (List Int)) × Int),((n=n∧True∧True∧n=n∧(lI n)=(lI n)∧(0:Int)=d100.2∧True)∧((d100.1=[]∧(List.isEmpty d100.1)=true)∧(l=l∧tl=tl∧(([]:List SV)=[]))∧True)) ∧
    LoopP (fun (d10:(List (List Int)) × Int) (q10:((List (List Int)) × Int)→Prop) =>
     ((decide (d10.2 < (lI n)))=true →
      (0 ≤ d10.2)∧(d10.2 < (List.length n))∧(True)∧((!(needOk ((gD n d10.2 (0,0)).1) ((gD n d10.2 (0,0)).2)))=true →
       ((True∧d10.2=(wayAt l tl n)∧(2:Int)=(wayErr l tl n)∧(([]:List SV)=[]))∧(((wayW l tl n)=[]∧(wayW l tl n).isEmpty=true)∧True))) ∧
      ((!(needOk ((gD n d10.2 (0,0)).1) ((gD n d10.2 (0,0)).2)))=false →
       (0 ≤ (0:Int))∧((0:Int) ≤ d10.2)∧(d10.2 ≤ (List.length n))∧((List.take (Int.toNat (d10.2 - (0:Int))) (List.drop (Int.toNat (0:Int)) n)).length ≤ 1000000∧∀ x ∈ (List.take (Int.toNat (d10.2 - (0:Int))) (List.drop (Int.toNat (0:Int)) n)),(fun (x2:Int × Int)=>True) x)∧(((List.take (Int.toNat (d10.2 - (0:Int))) (List.drop (Int.toNat (0:Int)) n)).any (fun (x2:Int × Int)=>(x2.1 == ((gD n d10.2 (0,0)).1))))=true →
        ((True∧d10.2=(wayAt l tl n)∧(6:Int)=(wayErr l tl n)∧(([]:List SV)=[]))∧(((wayW l tl n)=[]∧(wayW l tl n).isEmpty=true)∧True))) ∧
       (((List.take (Int.toNat (d10.2 - (0:Int))) (List.drop (Int.toNat (0:Int)) n)).any (fun (x2:Int × Int)=>(x2.1 == ((gD n d10.2 (0,0)).1))))=false →
        (l.length ≤ 12∧(∀ y ∈ l,lotOk y=true))∧(((if (fillK l tl ((gD n d10.2 (0,0)).1) ((gD n d10.2 (0,0)).2) (2 ^ l.length)).isEmpty then 7 else 0) != (0:Int))=true →
         ((True∧d10.2=(wayAt l tl n)∧(if (fillK l tl ((gD n d10.2 (0,0)).1) ((gD n d10.2 (0,0)).2) (2 ^ l.length)).isEmpty then 7 else 0)=(wayErr l tl n)∧(([]:List SV)=[]))∧(((wayW l tl n)=[]∧(wayW l tl n).isEmpty=true)∧True))) ∧
        (((if (fillK l tl ((gD n d10.2 (0,0)).1) ((gD n d10.2 (0,0)).2) (2 ^ l.length)).isEmpty then 7 else 0) != (0:Int))=false →
         (((List.length d10.1) + (List.length [(fillK l tl ((gD n d10.2 (0,0)).1) ((gD n d10.2 (0,0)).2) (2 ^ l.length))])) * 24 ≤ 70368744177664)∧(I64 (d10.2 + (1:Int)))∧(∃ d11:(List (List Int)) × Int,((n=n∧True∧True∧n=n∧(lI n)=(lI n)∧(d10.2 + (1:Int))=d11.2∧True)∧(((d10.1++[(fillK l tl ((gD n d10.2 (0,0)).1) ((gD n d10.2 (0,0)).2) (2 ^ l.length))])=d11.1∧false=(List.isEmpty d11.1))∧(l=l∧tl=tl∧(([]:List SV)=[]))∧True))∧q10 d11))))) ∧
     ((decide (d10.2 < (lI n)))=false →
      ((True∧(0:Int)=(wayAt l tl n)∧(0:Int)=(wayErr l tl n)∧(([]:List SV)=[]))∧((d10.1=(wayW l tl n)∧(List.isEmpty d10.1)=(wayW l tl n).isEmpty)∧True)))) d100)))
def cx_shade_Way:Cx:=⟨[(3,(.i .i64)),(31,(.list (.i .i64)))],[(69,s_shade_Check),(61,s_shade_within),(52,s_shade_isNeed),(71,s_slices_ContainsFunc_api_ShadeNeed_api_ShadeNeed),(72,s_shade_Way_1),(53,s_shade_store_fill)],61,[],0,[(51,x_shade_open)],[],[(31,3)],[],false,[],[],[]⟩
def lp_shade_Way (l:List (Int × (Int × Int) × Int)) (tl:Int) (n:List (Int × Int)):List (Nat × LoopAnn):=[(1,⟨Unit,(List (List Int)) × Int,[2,6,9,28,29,30],fun e x=>[.val (.list (.pair (.i .i64) (.i .i64))) n,.dd 58 .out,.box 9 0,.val (.list (.pair (.i .i64) (.i .i64))) n,.val (.i .i64) (((List.length n):Nat):Int),.val (.i .i64) x.2],fun e x=>[(58,.slot 6,.deep 31 (some 3) (.list (.i .i64)) x.1 (List.isEmpty x.1) none),(9,.slot 9,.cells [.val (.list (.pair (.i .i64) (.pair (.pair (.i .i64) (.i .i64)) (.i .i64)))) l,.val (.i .i64) tl] (some 105))]⟩)]
set_option maxRecDepth 100000 in
theorem vq_shade_Way (d:(List (Int × (Int × Int) × Int)) × Int × List (Int × Int)):gwp (cx_shade_Way) (lp_shade_Way d.1 d.2.1 d.2.2) c42 0 (gend [.tmp 6,.tmp 7,.tmp 8] (res_shade_Way d) (obs_shade_Way d)) (gstart 61 (AL.can al_shade_Way d))=vc_shade_Way d.1 d.2.1 d.2.2:=by kernel_rfl
abbrev Ok_shade_Way:Prop:=OkC Tryz.prog 42 s_shade_Way
theorem mk_shade_Way (h:∀ (l:List (Int × (Int × Int) × Int)) (tl:Int) (n:List (Int × Int)),(l.length ≤ 1000∧n.length ≤ 1000)→vc_shade_Way l tl n):OkC Tryz.prog 42 s_shade_Way :=
 okC_vc fun42 mixed (C:=cx_shade_Way) (V:=fun (d:(List (Int × (Int × Int) × Int)) × Int × List (Int × Int))=>vc_shade_Way d.1 d.2.1 d.2.2) ⟨(.cons ok_shade_Check (.cons ok_shade_within (.cons ok_shade_isNeed (.cons ok_slices_ContainsFunc_api_ShadeNeed_api_ShadeNeed (.cons ok_shade_Way_1 (.cons ok_shade_store_fill .nil)))))),(XsOk.cons okx_shade_open XsOk.nil),ItsOk.nil,YlOk.nil,IysOk.nil⟩ (vq_shade_Way) fun d hp=>h d.1 d.2.1 d.2.2 hp
end Go.Proofs.Tryz
set_option linter.unusedVariables false
namespace Go.Proofs.Tryz
open Go Go.V Go.Proofs
theorem ok_shade_Way:Ok_shade_Way:=mk_shade_Way fun l tl n h=>by
 obtain ⟨h1,h2⟩:=h
 unfold vc_shade_Way; (try delta lI gD sT I64)
 have e:∀ n a b:Int,(decide (n < a) || decide (b < n))=!inI n a b:=fun n a b=>(nI n a b).symm
 simp only [List.any_cons,List.any_nil,Bool.or_false,e,Bool.not_not,List.length_cons,List.length_nil,dead3,Bool.true_eq_false,true_and,and_true,exists_const,decide_eq_true_eq,decide_eq_false_iff_not,beq_iff_eq,bne_iff_ne,ne_eq,bne_eq_false_iff_eq,Bool.not_eq_true',Bool.not_eq_false',gt_iff_lt,false_implies,Bool.or_false,implies_true,forall_const]
 have wo:openW l tl n ≠ 0→∀ a c,a=0→c=openW l tl n→(a=wayAt l tl n∧c=wayErr l tl n)∧wayW l tl n=[]∧(wayW l tl n).isEmpty=true:=fun ho a c ha hc=>by
  obtain ⟨e1,e2,e3⟩:=way_open ho
  rw [e1,e2,e3]; exact ⟨⟨ha,hc⟩,rfl,rfl⟩
 have oo:openErr l tl ≠ 0→openW l tl n=openErr l tl:=fun h=>by unfold openW; rw [if_pos h]
 refine ⟨h1,fun _=>by omega,fun hx=>?_,fun hx=>⟨fun hy=>?_,fun hy=>⟨fun hz=>?_,fun hz=>?_⟩⟩⟩
 ·simp only [Bool.and_eq_true,beq_iff_eq,Bool.not_eq_true'] at hx
  have o:openErr l tl=3:=by unfold openErr; rw [if_neg (by omega),hx.2]; rfl
  exact wo (by rw [oo (by omega)]; omega) _ _ rfl (by rw [oo (by omega)]; omega)
 ·have o:openErr l tl=lotsErr l:=by unfold openErr; rw [if_pos hy]
  exact wo (by rw [oo (by omega)]; omega) _ _ rfl (by rw [oo (by omega)]; omega)
 ·have o:openErr l tl=0:=by
   unfold openErr; rw [if_neg (by omega),if_neg]
   intro h2; rw [hy,h2] at hx; cases hx
  have o2:openW l tl n=5:=by unfold openW; rw [if_neg (by omega),if_pos (by omega)]
  exact wo (by omega) _ _ rfl o2.symm
 ·have o:openErr l tl=0:=by
   unfold openErr; rw [if_neg (by omega),if_neg]
   intro h2; rw [hy,h2] at hx; cases hx
  have o2:openW l tl n=0:=by unfold openW; rw [if_neg (by omega),if_neg (by omega)]
  obtain ⟨z1,z2⟩:=lots_zero hy
  refine ⟨([],0),(by and_intros <;> first | rfl | trivial | simp),?_⟩
  refine LoopP.count2 n.length (fun k L=>L=wayL l tl n k∧∀ j,j < k→wayS l tl n j=0) ⟨rfl,fun j hj=>by omega⟩ fun k L hk hJ q hq=>?_
  obtain ⟨rfl,j2⟩:=hJ
  dsimp only
  simp only [Int.toNat_natCast,Int.sub_zero,Int.toNat_zero,List.drop_zero]
  refine ⟨fun hlt=>?_,fun hge=>?_⟩
  ·have hkl:k < n.length:=by omega
   have wa:wayS l tl n k ≠ 0→∀ c,c=wayS l tl n k→((k:Int)=wayAt l tl n∧c=wayErr l tl n)∧wayW l tl n=[]∧(wayW l tl n).isEmpty=true:=fun hw c hc=>by
    obtain ⟨e1,e2,e3⟩:=way_at o2 j2 hkl hw
    rw [e1,e2,e3]; exact ⟨⟨rfl,hc⟩,rfl,rfl⟩
   have hL:=wayL_len (l:=l) (tl:=tl) (n:=n) (k:=k) (by omega)
   refine ⟨by omega,hlt,fun a=>?_,fun a=>⟨by omega,by omega,by omega,by rw [List.length_take]; omega,fun b=>?_,fun b=>⟨⟨z1,z2⟩,fun c=>?_,fun c=>⟨by omega,by rw [InK_i64]; omega,(wayL l tl n (k + 1),(k:Int) + 1),⟨rfl,(wayL_succ hkl).symm,(wayL_nonempty hkl).symm⟩,hq _ hkl ⟨rfl,fun j hj=>?_⟩⟩⟩⟩⟩
   ·have w:wayS l tl n k=2:=by unfold wayS; rw [if_pos a]
    exact wa (by omega) _ w.symm
   ·have w:wayS l tl n k=6:=by unfold wayS; rw [if_neg (by rw [a]; decide),if_pos b]
    exact wa (by omega) _ w.symm
   ·have w:wayS l tl n k=if (fillK l tl (n.getD k (0,0)).1 (n.getD k (0,0)).2 (2 ^ l.length)).isEmpty=true then 7 else 0:=by unfold wayS; rw [if_neg (by rw [a]; decide),if_neg (by rw [b]; decide)]
    exact wa (by rw [w]; exact c) _ w.symm
   ·rcases Nat.lt_succ_iff_lt_or_eq.1 hj with hj | rfl
    ·exact j2 j hj
    ·unfold wayS; rw [if_neg (by rw [a]; decide),if_neg (by rw [b]; decide)]; exact c
  ·have:k=n.length:=by omega
   subst this
   obtain ⟨e1,e2,e3⟩:=way_end o2 j2
   rw [e1,e2,e3]
   exact (by and_intros <;> first | rfl | trivial | simp)
end Go.Proofs.Tryz
set_option linter.unusedVariables false
namespace Go.Proofs.Tryz
open Go Go.V Go.Proofs
def al_law09_ShadeWays:AL ((List (Int × (Int × Int) × Int)) × Int × List (Int × Int)):=(.cons (.k (.list (.pair (.i .i64) (.pair (.pair (.i .i64) (.i .i64)) (.i .i64))))) (.cons (.k (.i .i64)) (.one (.k (.list (.pair (.i .i64) (.i .i64)))))))
def pre_law09_ShadeWays (d:(List (Int × (Int × Int) × Int)) × Int × List (Int × Int)):Prop:=d.1.length ≤ 9223372036854775807∧d.2.2.length ≤ 9223372036854775807
def res_law09_ShadeWays (d:(List (Int × (Int × Int) × Int)) × Int × List (Int × Int)):SV:=.val .bo true
def obs_law09_ShadeWays (d:(List (Int × (Int × Int) × Int)) × Int × List (Int × Int)):List OB:=[]
def s_law09_ShadeWays:CSp:=mkSp al_law09_ShadeWays pre_law09_ShadeWays res_law09_ShadeWays obs_law09_ShadeWays
def vc_law09_ShadeWays (l:List (Int × (Int × Int) × Int)) (tl:Int) (n:List (Int × Int)):Prop :=
 (l.length ≤ 9223372036854775807)∧∃ (e2:Unit),CutP (fun (q2:(Int)→Prop) =>
 ((((openErr l tl) == (0:Int)) && (decide ((lI n) > (10:Int))))=true →
  (∃ d3:Int,((l=l∧tl=tl∧n=n∧(5:Int)=d3∧True)∧(True))∧q2 d3)) ∧
 ((((openErr l tl) == (0:Int)) && (decide ((lI n) > (10:Int))))=false →
  (∃ d4:Int,((l=l∧tl=tl∧n=n∧(openErr l tl)=d4∧True)∧(True))∧q2 d4)))
 (fun (d2:Int) =>
  ((((decide ((lI l) > (20:Int))) || (decide ((lI n) > (15:Int)))) || ((d2 == (0:Int)) && (decide ((lI l) > (8:Int)))))=true →
   (True)∧(true=true∧(True))) ∧
  ((((decide ((lI l) > (20:Int))) || (decide ((lI n) > (15:Int)))) || ((d2 == (0:Int)) && (decide ((lI l) > (8:Int)))))=false →
   (l.length ≤ 1000)∧(n.length ≤ 1000)∧(l.length ≤ 1000∧n.length ≤ 1000)∧(l.length ≤ 1000)∧((!(l == l))=true →
    (false=true∧(True))) ∧
   ((!(l == l))=false →
    ∃ (e7:Int) (d70:Int),((l=l∧tl=tl∧n=n∧d2=e7∧True∧True∧(wayAt l tl n)=(wayAt l tl n)∧(wayErr l tl n)=(wayErr l tl n)∧(0:Int)=d70∧True)∧((n=n∧false=false)∧((wayW l tl n)=(wayW l tl n)∧(wayW l tl n).isEmpty=(List.isEmpty (wayW l tl n)))∧True)) ∧
    LoopP (fun (d7:Int) (q7:(Int)→Prop) =>
     ((decide (d7 < (lI n)))=true →
      (0 ≤ d7)∧(d7 < (List.length n))∧(0 ≤ d7)∧(d7 < (List.length n))∧((!(((gD n d7 (0,0)).1 == (gD n d7 (0,0)).1) && ((gD n d7 (0,0)).2 == (gD n d7 (0,0)).2)))=true →
       (false=true∧(True))) ∧
      ((!(((gD n d7 (0,0)).1 == (gD n d7 (0,0)).1) && ((gD n d7 (0,0)).2 == (gD n d7 (0,0)).2)))=false →
       (I64 (d7 + (1:Int)))∧(∃ d8:Int,((l=l∧tl=tl∧n=n∧e7=e7∧True∧True∧(wayAt l tl n)=(wayAt l tl n)∧(wayErr l tl n)=(wayErr l tl n)∧(d7 + (1:Int))=d8∧True)∧((n=n∧false=false)∧((wayW l tl n)=(wayW l tl n)∧(List.isEmpty (wayW l tl n))=(List.isEmpty (wayW l tl n)))∧True))∧q7 d8))) ∧
     ((decide (d7 < (lI n)))=false →
      ∃ (e11:Unit) (d110:Int × Int × (List (List Int)) × Int),((l=l∧tl=tl∧n=n∧e7=d110.1∧True∧(wayAt l tl n)=(wayAt l tl n)∧(wayErr l tl n)=(wayErr l tl n)∧(0:Int)=d110.2.1∧True∧(0:Int)=d110.2.2.2∧True)∧(((wayW l tl n)=(wayW l tl n)∧(List.isEmpty (wayW l tl n))=(List.isEmpty (wayW l tl n)))∧(([]:List (List Int))=d110.2.2.1∧false=false)∧True)) ∧
      LoopP (fun (d11:Int × Int × (List (List Int)) × Int) (q11:(Int × Int × (List (List Int)) × Int)→Prop) =>
       (((decide (d11.2.2.2 < (lI n))) && (d11.1 == (0:Int)))=true →
        (0 ≤ d11.2.2.2)∧(d11.2.2.2 < (List.length n))∧(True)∧∃ (e14:Int × (List (List Int)) × Int),CutP (fun (q14:(Int)→Prop) =>
        ((!(needOk ((gD n d11.2.2.2 (0,0)).1) ((gD n d11.2.2.2 (0,0)).2)))=true →
         (∃ d15:Int,((l=l∧tl=tl∧n=n∧(2:Int)=d15∧True∧(wayAt l tl n)=(wayAt l tl n)∧(wayErr l tl n)=(wayErr l tl n)∧d11.2.2.2=e14.1∧True∧d11.2.2.2=e14.2.2∧True)∧(((wayW l tl n)=(wayW l tl n)∧(List.isEmpty (wayW l tl n))=(List.isEmpty (wayW l tl n)))∧(d11.2.2.1=e14.2.1∧false=false)∧True))∧q14 d15)) ∧
        ((!(needOk ((gD n d11.2.2.2 (0,0)).1) ((gD n d11.2.2.2 (0,0)).2)))=false →
         (∃ d16:Int,((l=l∧tl=tl∧n=n∧d11.1=d16∧True∧(wayAt l tl n)=(wayAt l tl n)∧(wayErr l tl n)=(wayErr l tl n)∧d11.2.2.2=e14.1∧True∧d11.2.2.2=e14.2.2∧True)∧(((wayW l tl n)=(wayW l tl n)∧(List.isEmpty (wayW l tl n))=(List.isEmpty (wayW l tl n)))∧(d11.2.2.1=e14.2.1∧false=false)∧True))∧q14 d16)))
        (fun (d14:Int) =>
         ∃ (e19:Int × (List (List Int)) × Int) (d190:Int × Int),((l=l∧tl=tl∧n=n∧d14=d190.1∧True∧(wayAt l tl n)=(wayAt l tl n)∧(wayErr l tl n)=(wayErr l tl n)∧e14.1=e19.1∧True∧e14.2.2=e19.2.2∧(0:Int)=d190.2∧True)∧(((wayW l tl n)=(wayW l tl n)∧(List.isEmpty (wayW l tl n))=(List.isEmpty (wayW l tl n)))∧(e14.2.1=e19.2.1∧false=false)∧True)) ∧
         LoopP (fun (d19:Int × Int) (q19:(Int × Int)→Prop) =>
          (((decide (d19.2 < e19.2.2)) && (d19.1 == (0:Int)))=true →
           (0 ≤ d19.2)∧(d19.2 < (List.length n))∧(0 ≤ e19.2.2)∧(e19.2.2 < (List.length n))∧(((gD n d19.2 (0,0)).1 == (gD n e19.2.2 (0,0)).1)=true →
            (I64 (d19.2 + (1:Int)))∧(∃ d20:Int × Int,((l=l∧tl=tl∧n=n∧(6:Int)=d20.1∧True∧(wayAt l tl n)=(wayAt l tl n)∧(wayErr l tl n)=(wayErr l tl n)∧e19.1=e19.1∧True∧e19.2.2=e19.2.2∧(d19.2 + (1:Int))=d20.2∧True)∧(((wayW l tl n)=(wayW l tl n)∧(List.isEmpty (wayW l tl n))=(List.isEmpty (wayW l tl n)))∧(e19.2.1=e19.2.1∧false=false)∧True))∧q19 d20)) ∧
           (((gD n d19.2 (0,0)).1 == (gD n e19.2.2 (0,0)).1)=false →
            (I64 (d19.2 + (1:Int)))∧(∃ d21:Int × Int,((l=l∧tl=tl∧n=n∧d19.1=d21.1∧True∧(wayAt l tl n)=(wayAt l tl n)∧(wayErr l tl n)=(wayErr l tl n)∧e19.1=e19.1∧True∧e19.2.2=e19.2.2∧(d19.2 + (1:Int))=d21.2∧True)∧(((wayW l tl n)=(wayW l tl n)∧(List.isEmpty (wayW l tl n))=(List.isEmpty (wayW l tl n)))∧(e19.2.1=e19.2.1∧false=false)∧True))∧q19 d21))) ∧
          (((decide (d19.2 < e19.2.2)) && (d19.1 == (0:Int)))=false →
           ((d19.1 == (0:Int))=true →
            (0 ≤ e19.2.2)∧(e19.2.2 < (List.length n))∧(l.length ≤ 12∧(∀ y ∈ l,lotOk y=true))∧(((List.length e19.2.1) + (List.length [(fillK l tl ((gD n e19.2.2 (0,0)).1) ((gD n e19.2.2 (0,0)).2) (2 ^ l.length))])) * 24 ≤ 70368744177664)∧((!(!(fillK l tl ((gD n e19.2.2 (0,0)).1) ((gD n e19.2.2 (0,0)).2) (2 ^ l.length)).isEmpty))=true →
             (I64 (e19.2.2 + (1:Int)))∧(∃ d22:Int × Int × (List (List Int)) × Int,((l=l∧tl=tl∧n=n∧(7:Int)=d22.1∧True∧(wayAt l tl n)=(wayAt l tl n)∧(wayErr l tl n)=(wayErr l tl n)∧e19.1=d22.2.1∧True∧(e19.2.2 + (1:Int))=d22.2.2.2∧True)∧(((wayW l tl n)=(wayW l tl n)∧(List.isEmpty (wayW l tl n))=(List.isEmpty (wayW l tl n)))∧((e19.2.1++[(fillK l tl ((gD n e19.2.2 (0,0)).1) ((gD n e19.2.2 (0,0)).2) (2 ^ l.length))])=d22.2.2.1∧false=false)∧True))∧q11 d22)) ∧
            ((!(!(fillK l tl ((gD n e19.2.2 (0,0)).1) ((gD n e19.2.2 (0,0)).2) (2 ^ l.length)).isEmpty))=false →
             (I64 (e19.2.2 + (1:Int)))∧(∃ d23:Int × Int × (List (List Int)) × Int,((l=l∧tl=tl∧n=n∧d19.1=d23.1∧True∧(wayAt l tl n)=(wayAt l tl n)∧(wayErr l tl n)=(wayErr l tl n)∧e19.1=d23.2.1∧True∧(e19.2.2 + (1:Int))=d23.2.2.2∧True)∧(((wayW l tl n)=(wayW l tl n)∧(List.isEmpty (wayW l tl n))=(List.isEmpty (wayW l tl n)))∧((e19.2.1++[(fillK l tl ((gD n e19.2.2 (0,0)).1) ((gD n e19.2.2 (0,0)).2) (2 ^ l.length))])=d23.2.2.1∧false=false)∧True))∧q11 d23))) ∧
           ((d19.1 == (0:Int))=false →
            (I64 (e19.2.2 + (1:Int)))∧(∃ d24:Int × Int × (List (List Int)) × Int,((l=l∧tl=tl∧n=n∧d19.1=d24.1∧True∧(wayAt l tl n)=(wayAt l tl n)∧(wayErr l tl n)=(wayErr l tl n)∧e19.1=d24.2.1∧True∧(e19.2.2 + (1:Int))=d24.2.2.2∧True)∧(((wayW l tl n)=(wayW l tl n)∧(List.isEmpty (wayW l tl n))=(List.isEmpty (wayW l tl n)))∧(e19.2.1=d24.2.2.1∧false=false)∧True))∧q11 d24)))) d190)) ∧
       (((decide (d11.2.2.2 < (lI n))) && (d11.1 == (0:Int)))=false →
        ((d11.1 != (0:Int))=true →
         (((((wayErr l tl n) == d11.1) && ((wayAt l tl n) == d11.2.1)) && ((lI (wayW l tl n)) == (0:Int)))=true→True)∧((((((wayErr l tl n) == d11.1) && ((wayAt l tl n) == d11.2.1)) && ((lI (wayW l tl n)) == (0:Int))) && true)=true∧(True))) ∧
        ((d11.1 != (0:Int))=false →
         (((((wayErr l tl n) != (0:Int)) || ((wayAt l tl n) != (0:Int))) || ((lI (wayW l tl n)) != (lI d11.2.2.1)))=true →
          (false=true∧(True))) ∧
         (((((wayErr l tl n) != (0:Int)) || ((wayAt l tl n) != (0:Int))) || ((lI (wayW l tl n)) != (lI d11.2.2.1)))=false →
          ∃ (e27:(List (List Int))) (d270:Int),((True∧True∧(0:Int)=d270∧True)∧(((wayW l tl n)=(wayW l tl n)∧(List.isEmpty (wayW l tl n))=(List.isEmpty (wayW l tl n)))∧(d11.2.2.1=e27∧false=false)∧True)) ∧
          LoopP (fun (d27:Int) (q27:(Int)→Prop) =>
           ((decide (d27 < (lI e27)))=true →
            (0 ≤ d27)∧(d27 < (List.length (wayW l tl n)))∧(0 ≤ d27)∧(d27 < (List.length e27))∧((gD (wayW l tl n) d27 []).length ≤ 1000)∧((!((gD (wayW l tl n) d27 []) == (gD e27 d27 [])))=true →
             (false=true∧(True))) ∧
            ((!((gD (wayW l tl n) d27 []) == (gD e27 d27 [])))=false →
             (I64 (d27 + (1:Int)))∧(∃ d28:Int,((True∧True∧(d27 + (1:Int))=d28∧True)∧(((wayW l tl n)=(wayW l tl n)∧(List.isEmpty (wayW l tl n))=(List.isEmpty (wayW l tl n)))∧(e27=e27∧false=false)∧True))∧q27 d28))) ∧
           ((decide (d27 < (lI e27)))=false →
            (True)∧(true=true∧(True)))) d270)))) d110)) d70)))
def cx_law09_ShadeWays:Cx:=⟨[(31,(.list (.i .i64)))],[(11,s_ref09_Open),(13,s_law09_known),(14,s_law09_own),(41,s_law09_needs),(42,s_shade_Way),(17,s_law09_same),(23,s_ref09_Need),(25,s_ref09_Fill),(26,s_ref09_Same)],184,[],0,[],[],[(31,3)],[],false,[],[],[]⟩
def lp_law09_ShadeWays (l:List (Int × (Int × Int) × Int)) (tl:Int) (n:List (Int × Int)):List (Nat × LoopAnn):=[(0,⟨Int,Int,[0,1,2,7,9,10,11,12,13],fun e x=>[.val (.list (.pair (.i .i64) (.pair (.pair (.i .i64) (.i .i64)) (.i .i64)))) l,.val (.i .i64) tl,.val (.list (.pair (.i .i64) (.i .i64))) n,.val (.i .i64) e,.lst 52,.dd 57 .out,.val (.i .i64) (wayAt l tl n),.val (.i .i64) (wayErr l tl n),.val (.i .i64) x],fun e x=>[(52,.slot 9,.lst 41 (.pair (.i .i64) (.i .i64)) n false),(57,.slot 10,.deep 31 (some 3) (.list (.i .i64)) (wayW l tl n) (List.isEmpty (wayW l tl n)) none)]⟩),
 (2,⟨Unit,Int × Int × (List (List Int)) × Int,[0,1,2,7,10,11,12,14,15,16],fun e x=>[.val (.list (.pair (.i .i64) (.pair (.pair (.i .i64) (.i .i64)) (.i .i64)))) l,.val (.i .i64) tl,.val (.list (.pair (.i .i64) (.i .i64))) n,.val (.i .i64) x.1,.dd 57 .out,.val (.i .i64) (wayAt l tl n),.val (.i .i64) (wayErr l tl n),.val (.i .i64) x.2.1,.dd 80 .out,.val (.i .i64) x.2.2.2],fun e x=>[(57,.slot 10,.deep 31 (some 3) (.list (.i .i64)) (wayW l tl n) (List.isEmpty (wayW l tl n)) none),(80,.slot 15,.deep 31 (some 3) (.list (.i .i64)) x.2.2.1 false none)]⟩),
 (4,⟨Int × (List (List Int)) × Int,Int × Int,[0,1,2,7,10,11,12,14,15,16,17],fun e x=>[.val (.list (.pair (.i .i64) (.pair (.pair (.i .i64) (.i .i64)) (.i .i64)))) l,.val (.i .i64) tl,.val (.list (.pair (.i .i64) (.i .i64))) n,.val (.i .i64) x.1,.dd 57 .out,.val (.i .i64) (wayAt l tl n),.val (.i .i64) (wayErr l tl n),.val (.i .i64) e.1,.dd 80 .out,.val (.i .i64) e.2.2,.val (.i .i64) x.2],fun e x=>[(57,.slot 10,.deep 31 (some 3) (.list (.i .i64)) (wayW l tl n) (List.isEmpty (wayW l tl n)) none),(80,.slot 15,.deep 31 (some 3) (.list (.i .i64)) e.2.1 false none)]⟩),
 (6,⟨(List (List Int)),Int,[10,15,20],fun e x=>[.dd 57 .out,.dd 80 .out,.val (.i .i64) x],fun e x=>[(57,.slot 10,.deep 31 (some 3) (.list (.i .i64)) (wayW l tl n) (List.isEmpty (wayW l tl n)) none),(80,.slot 15,.deep 31 (some 3) (.list (.i .i64)) e false none)]⟩),
 (3000030,⟨Unit,Int,[0,1,2,7],fun e x=>[.val (.list (.pair (.i .i64) (.pair (.pair (.i .i64) (.i .i64)) (.i .i64)))) l,.val (.i .i64) tl,.val (.list (.pair (.i .i64) (.i .i64))) n,.val (.i .i64) x],fun e x=>[]⟩),
 (3000097,⟨Int × (List (List Int)) × Int,Int,[0,1,2,7,10,11,12,14,15,16],fun e x=>[.val (.list (.pair (.i .i64) (.pair (.pair (.i .i64) (.i .i64)) (.i .i64)))) l,.val (.i .i64) tl,.val (.list (.pair (.i .i64) (.i .i64))) n,.val (.i .i64) x,.dd 57 .out,.val (.i .i64) (wayAt l tl n),.val (.i .i64) (wayErr l tl n),.val (.i .i64) e.1,.dd 80 .out,.val (.i .i64) e.2.2],fun e x=>[(57,.slot 10,.deep 31 (some 3) (.list (.i .i64)) (wayW l tl n) (List.isEmpty (wayW l tl n)) none),(80,.slot 15,.deep 31 (some 3) (.list (.i .i64)) e.2.1 false none)]⟩)]
set_option maxRecDepth 100000 in
theorem vq_law09_ShadeWays (d:(List (Int × (Int × Int) × Int)) × Int × List (Int × Int)):gwp (cx_law09_ShadeWays) (lp_law09_ShadeWays d.1 d.2.1 d.2.2) c10 0 (gend [.tmp 6] (res_law09_ShadeWays d) (obs_law09_ShadeWays d)) (gstart 184 (AL.can al_law09_ShadeWays d))=vc_law09_ShadeWays d.1 d.2.1 d.2.2:=by kernel_rfl
abbrev Ok_law09_ShadeWays:Prop:=OkC Tryz.prog 10 s_law09_ShadeWays
theorem mk_law09_ShadeWays (h:∀ (l:List (Int × (Int × Int) × Int)) (tl:Int) (n:List (Int × Int)),(l.length ≤ 9223372036854775807∧n.length ≤ 9223372036854775807)→vc_law09_ShadeWays l tl n):OkC Tryz.prog 10 s_law09_ShadeWays :=
 okC_vc fun10 mixed (C:=cx_law09_ShadeWays) (V:=fun (d:(List (Int × (Int × Int) × Int)) × Int × List (Int × Int))=>vc_law09_ShadeWays d.1 d.2.1 d.2.2) ⟨(.cons ok_ref09_Open (.cons ok_law09_known (.cons ok_law09_own (.cons ok_law09_needs (.cons ok_shade_Way (.cons ok_law09_same (.cons ok_ref09_Need (.cons ok_ref09_Fill (.cons ok_ref09_Same .nil))))))))),XsOk.nil,ItsOk.nil,YlOk.nil,IysOk.nil⟩ (vq_law09_ShadeWays) fun d hp=>h d.1 d.2.1 d.2.2 hp
end Go.Proofs.Tryz
set_option linter.unusedVariables false
namespace Go.Proofs.Tryz
open Go Go.V Go.Proofs
theorem openW_zero {l:List Lot} {tl:Int} {n:List (Int × Int)} (h:openW l tl n=0):openErr l tl=0:=by
 unfold openW at h
 by_cases h1:openErr l tl=0
 ·exact h1
 ·rw [if_pos h1] at h; exact h
theorem ok_law09_ShadeWays:Ok_law09_ShadeWays:=mk_law09_ShadeWays fun l tl n h=>by
 obtain ⟨h1,h2⟩:=h
 unfold vc_law09_ShadeWays; (try delta lI gD sT I64)
 refine ⟨h1,(),fun d=>d=openW l tl n,⟨fun hx=>⟨5,(by and_intros <;> first | rfl | trivial | simp),?_⟩,fun hx=>⟨openErr l tl,(by and_intros <;> first | rfl | trivial | simp),?_⟩⟩,fun d2 hd2=>?_⟩
 ·rw [Bool.and_eq_true,beq_iff_eq,decide_eq_true_eq] at hx
  unfold openW; rw [if_neg (by omega),if_pos (by omega)]
 ·unfold openW
  by_cases h:openErr l tl=0
  ·rw [if_neg (by omega),if_neg,h]
   intro h9; rw [h,decide_eq_true (show (n.length:Int) > 10 by omega)] at hx; cases hx
  ·rw [if_pos h]
 subst hd2
 refine ⟨fun _=>(by and_intros <;> first | rfl | trivial | simp),fun hx=>?_⟩
 have hl20:l.length ≤ 20∧n.length ≤ 15:=by
  simp only [Bool.or_eq_false_iff,decide_eq_false_iff_not] at hx; omega
 clear hx
 obtain ⟨l1,l2⟩:=hl20
 refine ⟨by omega,by omega,⟨by omega,by omega⟩,by omega,(fun h=>by simp at h),fun _=>⟨openW l tl n,0,(by and_intros <;> first | rfl | trivial | simp),?_⟩⟩
 refine LoopP.count n.length (fun k=>True) trivial fun k hk _ q hq=>?_
 refine ⟨fun hlt=>?_,fun _=>?_⟩
 ·have hlt:=of_decide_eq_true hlt
  exact ⟨by omega,hlt,by omega,hlt,(fun h=>by simp at h),fun _=>⟨by rw [InK_i64]; omega,_,(by and_intros <;> first | rfl | trivial | simp),hq (by omega) trivial⟩⟩
 refine ⟨(),(openW l tl n,0,[],0),(by and_intros <;> first | rfl | trivial | simp),?_⟩
 refine ⟨fun d=>∃ i:Nat,d.2.2.2=i∧i ≤ n.length∧(d.1=0→openW l tl n=0∧d.2.2.1=wayL l tl n i∧∀ j,j < i→wayS l tl n j=0)∧(d.1 ≠ 0→wayErr l tl n=d.1∧wayAt l tl n=d.2.1∧wayW l tl n=[]),fun d=>n.length - d.2.2.2.toNat,⟨0,rfl,by omega,fun h=>⟨h,rfl,fun j hj=>by omega⟩,fun h=>way_open h⟩,?_⟩
 rintro ⟨w,wh,L,_⟩ ⟨i,rfl,i1,i2,i3⟩
 dsimp only at i2 i3 ⊢
 simp only [Int.toNat_natCast]
 refine ⟨fun hc=>?_,fun hc=>?_⟩
 ·rw [Bool.and_eq_true,decide_eq_true_eq,beq_iff_eq] at hc
  obtain ⟨hil,rfl⟩:=hc
  obtain ⟨k1,rfl,k3⟩:=i2 rfl
  clear i2 i3
  have hil':i < n.length:=by omega
  obtain ⟨z1,z2⟩:=lots_zero (open_zero (openW_zero k1)).1
  have hL:=wayL_len (l:=l) (tl:=tl) (n:=n) (k:=i) (by omega)
  refine ⟨by omega,hil,trivial,((i:Int),wayL l tl n i,(i:Int)),fun d=>d=if needOk (n.getD i (0,0)).1 (n.getD i (0,0)).2=false then 2 else 0,⟨fun a=>⟨2,(by and_intros <;> first | rfl | trivial | simp),?_⟩,fun a=>⟨0,(by and_intros <;> first | rfl | trivial | simp),?_⟩⟩,fun d14 hd14=>?_⟩
  ·rw [Bool.not_eq_true'] at a; rw [if_pos a]
  ·rw [Bool.not_eq_false'] at a; rw [if_neg (by rw [a]; decide)]
  refine ⟨((i:Int),wayL l tl n i,(i:Int)),(d14,0),(by and_intros <;> first | rfl | trivial | simp),?_⟩
  refine ⟨fun d=>∃ m:Nat,d.2=m∧m ≤ i∧((d.1=6∧d14=0∧∃ j,j < i∧(n.getD j (0,0)).1=(n.getD i (0,0)).1) ∨ (d.1=d14∧∀ j,j < m→(n.getD j (0,0)).1 ≠ (n.getD i (0,0)).1)),fun d=>i - d.2.toNat,⟨0,rfl,by omega,.inr ⟨rfl,fun j hj=>by omega⟩⟩,?_⟩
  rintro ⟨w,_⟩ ⟨m,rfl,m1,m2⟩
  dsimp only at m2 ⊢
  simp only [Int.toNat_natCast]
  have hany:((n.take i).any fun x=>x.1 == (n.getD i (0,0)).1)=true ↔ ∃ j,j < i∧(n.getD j (0,0)).1=(n.getD i (0,0)).1:=by
   simp only [List.any_eq_true,beq_iff_eq]
   constructor
   ·rintro ⟨x,hx,he⟩
    obtain ⟨j,hj,rfl⟩:=List.getElem_of_mem hx
    have hj2:j < i:=by rw [List.length_take] at hj; omega
    refine ⟨j,hj2,?_⟩
    rw [List.getElem_take] at he
    rw [getD_nat (by omega:j < n.length)]; exact he
   ·rintro ⟨j,hj,he⟩
    rw [getD_nat (by omega:j < n.length)] at he
    exact ⟨n[j],by rw [List.mem_take_iff_getElem]; exact ⟨j,by omega,rfl⟩,he⟩
  refine ⟨fun hc=>?_,fun hc=>?_⟩
  ·rw [Bool.and_eq_true,decide_eq_true_eq,beq_iff_eq] at hc
   obtain ⟨hmi,rfl⟩:=hc
   have hd0:d14=0∧∀ j,j < m→(n.getD j (0,0)).1 ≠ (n.getD i (0,0)).1:=by
    rcases m2 with ⟨a,_⟩ | ⟨a,b⟩
    ·cases a
    ·exact ⟨a.symm,b⟩
   refine ⟨by omega,by omega,by omega,hil,fun a=>⟨by rw [InK_i64]; omega,(6,(m:Int) + 1),(by and_intros <;> first | rfl | trivial | simp),⟨m + 1,rfl,by omega,.inl ⟨rfl,hd0.1,m,by omega,eq_of_beq a⟩⟩,by show i - ((m:Int) + 1).toNat < i - m; omega⟩,fun a=>⟨by rw [InK_i64]; omega,(0,(m:Int) + 1),(by and_intros <;> first | rfl | trivial | simp),⟨m + 1,rfl,by omega,.inr ⟨hd0.1.symm,fun j hj=>?_⟩⟩,by show i - ((m:Int) + 1).toNat < i - m; omega⟩⟩
   rcases Nat.lt_succ_iff_lt_or_eq.1 hj with hj | rfl
   ·exact hd0.2 j hj
   ·exact ne_of_beq_false a
  ·have hc:¬ (m < i∧w=0):=by
    rintro ⟨h9,rfl⟩
    rw [decide_eq_true (show (m:Int) < i by omega)] at hc; cases hc
   have wa:wayS l tl n i ≠ 0→wayErr l tl n=wayS l tl n i∧wayAt l tl n=i∧wayW l tl n=[]:=fun hw=>way_at k1 k3 hil' hw
   refine ⟨fun a=>?_,fun a=>?_⟩
   ·have a:=eq_of_beq a
    subst a
    have hd0:d14=0∧∀ j,j < m→(n.getD j (0,0)).1 ≠ (n.getD i (0,0)).1:=by
     rcases m2 with ⟨a,_⟩ | ⟨a,b⟩
     ·cases a
     ·exact ⟨a.symm,b⟩
    have hmi:m=i:=by omega
    subst hmi
    have hn:¬ needOk (n.getD m (0,0)).1 (n.getD m (0,0)).2=false:=by
     intro h9; rw [if_pos h9] at hd14; omega
    have hb:¬ ((n.take m).any fun x=>x.1 == (n.getD m (0,0)).1)=true:=by
     rw [hany]; rintro ⟨j,hj,he⟩; exact hd0.2 j hj he
    refine ⟨by omega,hil,⟨z1,z2⟩,by rw [hL]; simp only [List.length_cons,List.length_nil]; omega,fun c=>?_,fun c=>?_⟩
    ·have c:(fillK l tl (n.getD m (0,0)).1 (n.getD m (0,0)).2 (2 ^ l.length)).isEmpty=true:=by simpa using c
     have w7:wayS l tl n m=7:=by unfold wayS; rw [if_neg hn,if_neg hb,if_pos c]
     refine ⟨by rw [InK_i64]; omega,(7,(m:Int),wayL l tl n m++[fillK l tl (n.getD m (0,0)).1 (n.getD m (0,0)).2 (2 ^ l.length)],(m:Int) + 1),(by and_intros <;> first | rfl | trivial | simp),⟨m + 1,rfl,by omega,(fun h=>by cases h),fun _=>?_⟩,by show n.length - ((m:Int) + 1).toNat < n.length - m; omega⟩
     obtain ⟨e1,e2,e3⟩:=wa (by omega)
     exact ⟨by rw [e1,w7],e2,e3⟩
    ·have c:(fillK l tl (n.getD m (0,0)).1 (n.getD m (0,0)).2 (2 ^ l.length)).isEmpty=false:=by simpa using c
     have w0:wayS l tl n m=0:=by unfold wayS; rw [if_neg hn,if_neg hb,if_neg (by rw [c]; decide)]
     refine ⟨by rw [InK_i64]; omega,(0,(m:Int),wayL l tl n m++[fillK l tl (n.getD m (0,0)).1 (n.getD m (0,0)).2 (2 ^ l.length)],(m:Int) + 1),(by and_intros <;> first | rfl | trivial | simp),⟨m + 1,rfl,by omega,fun _=>⟨k1,(wayL_succ hil').symm,fun j hj=>?_⟩,(fun h=>(h rfl).elim)⟩,by show n.length - ((m:Int) + 1).toNat < n.length - m; omega⟩
     rcases Nat.lt_succ_iff_lt_or_eq.1 hj with hj | rfl
     ·exact k3 j hj
     ·exact w0
   ·have a:=ne_of_beq_false a
    refine ⟨by rw [InK_i64]; omega,(w,(i:Int),wayL l tl n i,(i:Int) + 1),(by and_intros <;> first | rfl | trivial | simp),⟨i + 1,rfl,by omega,(fun h=>(a h).elim),fun _=>?_⟩,by show n.length - ((i:Int) + 1).toNat < n.length - i; omega⟩
    have ws:wayS l tl n i=w:=by
     unfold wayS
     rcases m2 with ⟨rfl,b,c⟩ | ⟨rfl,b⟩
     ·rw [if_neg,if_pos (hany.2 c)]
      intro h9; rw [if_pos h9] at hd14; omega
     ·by_cases h9:needOk (n.getD i (0,0)).1 (n.getD i (0,0)).2=false
      ·rw [if_pos h9] at hd14 ⊢; exact hd14.symm
      ·rw [if_neg h9] at hd14; exact (a hd14).elim
    obtain ⟨e1,e2,e3⟩:=wa (by omega)
    exact ⟨by rw [e1,ws],e2,e3⟩
 ·refine ⟨fun a=>?_,fun a=>?_⟩
  ·have a:w ≠ 0:=by simpa using a
   obtain ⟨e1,e2,e3⟩:=i3 a
   rw [e1,e2,e3]
   refine ⟨fun _=>trivial,?_⟩
   simp
  ·have a:w=0:=by simpa using a
   subst a
   obtain ⟨k1,rfl,k3⟩:=i2 rfl
   have hin:i=n.length:=by
    apply Classical.byContradiction
    intro h9
    rw [decide_eq_true (show (i:Int) < n.length by omega)] at hc; cases hc
   subst hin
   obtain ⟨e1,e2,e3⟩:=way_end k1 k3
   obtain ⟨z1,z2⟩:=lots_zero (open_zero (openW_zero k1)).1
   rw [e1,e2,e3]
   refine ⟨(fun h=>by simp at h),fun _=>⟨wayL l tl n n.length,0,(by and_intros <;> first | rfl | trivial | simp),?_⟩⟩
   have hle:=wayL_le (tl:=tl) (n:=n) (k:=n.length) z1
   have hlen:=wayL_len (l:=l) (tl:=tl) (n:=n) (k:=n.length) (Nat.le_refl _)
   generalize wayL l tl n n.length=W at *
   refine LoopP.count W.length (fun k=>True) trivial fun k hk _ q hq=>?_
   simp only [Int.toNat_natCast]
   refine ⟨fun hlt=>?_,fun _=>(by and_intros <;> first | rfl | trivial | simp)⟩
   have hlt:=of_decide_eq_true hlt
   exact ⟨by omega,hlt,by omega,hlt,hle _ (by rw [getD_nat (by omega:k < W.length)]; exact List.getElem_mem _),(fun h=>by simp at h),fun _=>⟨by rw [InK_i64]; omega,_,(by and_intros <;> first | rfl | trivial | simp),hq (by omega) trivial⟩⟩
end Go.Proofs.Tryz