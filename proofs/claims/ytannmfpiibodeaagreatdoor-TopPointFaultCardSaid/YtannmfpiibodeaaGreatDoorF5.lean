/- A framework for walks, contracts of functions, and their proofs: part 5. -/
import Derived.Test.YtannmfpiibodeaaGreatDoorF4
set_option linter.unusedVariables false
set_option maxRecDepth 100000
namespace Go.Proofs.Tryz
open Go Go.V Go.Proofs
def Nd:AL (Int×Int×Int):=(.cons (.k (.i .i64)) (.cons (.ptr (.one (.k (.i .i64)))) (.one (.ptr (.one (.k (.i .i64)))))))
def Ha (d:Int×Int×Int):Prop:=True
def Uy (d:Int×Int×Int):SV:=.val .bo (decide (d.1<d.2.1)||decide (d.2.2<d.1))
def UB (d:Int×Int×Int):List OB:=[]
def KU:CSp:=XU Nd Ha Uy UB
def K4 (n:Int) (a:Int) (b:Int):Prop :=
 (((decide (n<a))||(decide (n > b)))=(decide (n<a)||decide (b<n))/\(True))
def NC:Cx:=⟨[],[],13,[],0,[],[],[],[],false,[],[],[],[]⟩
def P4 (n:Int) (a:Int) (b:Int):List (Nat×LoopAnn):=[]
theorem P0 (d:Int×Int×Int):gwp (NC) (P4 d.1 d.2.1 d.2.2) c67 0 (YI [.tmp 4] (Uy d) (UB d)) (Qv 13 (AL.can Nd d))=K4 d.1 d.2.1 d.2.2:=by kernel_rfl
abbrev Po:Prop:=OkC Tryz.prog 67 KU
theorem HY (h:∀ (n:Int) (a:Int) (b:Int),(True)->K4 n a b):OkC Tryz.prog 67 KU :=
 QB Z22 mixed (C:=NC) (V:=λ(d:Int×Int×Int)=>K4 d.1 d.2.1 d.2.2) ⟨.nil,XsOk.nil,ItsOk.nil,YlOk.nil,IysOk.nil,XfOk.nil⟩ (P0) λd hp=>h d.1 d.2.1 d.2.2 hp
theorem Pm:Po:=HY λn a b _=>by exact⟨rfl,trivial⟩
def Gg:AL (Int×Int×List Int):=(.cons (.k (.i .i64)) (.cons (.k (.i .i64)) (.one (.k (.list (.i .i64))))))
def T9 (d:Int×Int×List Int):Prop:=d.2.2.length<=1000000
def Mm (d:Int×Int×List Int):SV:=.val .bo (!(d.2.2.any λn=>decide (n<d.1)||decide (d.2.1<n)))
def Mp (d:Int×Int×List Int):List OB:=[]
def Ke:CSp:=XU Gg T9 Mm Mp
def Ua (a:Int) (b:Int) (l:List Int):Prop :=
 (l.length<=1000000/\∀ x∈l,(λ(x1:Int)=>True) x)/\((!(l.any (λ(x1:Int)=>(decide (x1<a)||decide (b<x1)))))=(!(l.any λn=>decide (n<a)||decide (b<n)))/\(True))
def Gr:Cx:=⟨[],[(66,QM),(67,KU)],11,[],0,[],[],[],[],false,[],[],[],[]⟩
def Rs (a:Int) (b:Int) (l:List Int):List (Nat×LoopAnn):=[]
theorem SB (d:Int×Int×List Int):gwp (Gr) (Rs d.1 d.2.1 d.2.2) c42 0 (YI [.tmp 6] (Mm d) (Mp d)) (Qv 11 (AL.can Gg d))=Ua d.1 d.2.1 d.2.2:=by kernel_rfl
abbrev S9:Prop:=OkC Tryz.prog 42 Ke
theorem R3 (h:∀ (a:Int) (b:Int) (l:List Int),(l.length<=1000000)->Ua a b l):OkC Tryz.prog 42 Ke :=
 QB Q9g mixed (C:=Gr) (V:=λ(d:Int×Int×List Int)=>Ua d.1 d.2.1 d.2.2) ⟨(.cons ZJ (.cons Pm .nil)),XsOk.nil,ItsOk.nil,YlOk.nil,IysOk.nil,XfOk.nil⟩ (SB) λd hp=>h d.1 d.2.1 d.2.2 hp
theorem GF:S9:=R3 λa b l h=>by exact⟨⟨h,λ_ _=>trivial⟩,rfl,trivial⟩
def Hb:AL (Int):=(.one (.k (.i .i64)))
def Ly (d:Int):Prop:=True
def DU (d:Int):SV:=.val (.i .i64) (Dp d)
def DG (d:Int):List OB:=[]
def Gu:CSp:=XU Hb Ly DU DG
def Vn (k:Int):Prop :=
 ((k==(2:Int))=true ->
  ((1:Int)=(Dp k)/\(True))) /\
 ((k==(2:Int))=false ->
  ((k==(5:Int))=true ->
   ((2:Int)=(Dp k)/\(True))) /\
  ((k==(5:Int))=false ->
   ((0:Int)=(Dp k)/\(True))))
def Hy:Cx:=⟨[],[],8,[],0,[],[],[],[],false,[],[],[],[]⟩
def An (k:Int):List (Nat×LoopAnn):=[]
theorem CT (d:Int):gwp (Hy) (An d) c47 0 (YI [.tmp 2] (DU d) (DG d)) (Qv 8 (AL.can Hb d))=Vn d:=by kernel_rfl
abbrev AD:Prop:=OkC Tryz.prog 47 Gu
theorem AG (h:∀ (k:Int),(True)->Vn k):OkC Tryz.prog 47 Gu :=
 QB Z2n mixed (C:=Hy) (V:=λ(d:Int)=>Vn d) ⟨.nil,XsOk.nil,ItsOk.nil,YlOk.nil,IysOk.nil,XfOk.nil⟩ (CT) λd hp=>h d hp
theorem CQ:AD:=AG λk _=>by unfold Vn;(try delta lI gD sT I64 Q2 pj8 pj4);unfold Dp;simp only[zF,xg,ne_eq];refine⟨λh=>?_,λh=>⟨λh2=>?_,λh2=>?_⟩⟩<;>simp[*]
def KF:AL ((Int×Int×Int×Int×Bool)×Int×Int×Int×Int×Bool):=(.cons (.agg (.cons (.k (.i .i64)) (.cons (.k (.i .i64)) (.cons (.k (.i .i64)) (.cons (.k (.i .i64)) (.one (.k .bo))))))) (.one (.agg (.cons (.k (.i .i64)) (.cons (.k (.i .i64)) (.cons (.k (.i .i64)) (.cons (.k (.i .i64)) (.one (.k .bo)))))))))
def MM (d:(Int×Int×Int×Int×Bool)×Int×Int×Int×Int×Bool):Prop:=True
def YL (d:(Int×Int×Int×Int×Bool)×Int×Int×Int×Int×Bool):SV:=.val (.i .i64) (Dp d.1.1-Dp d.2.1)
def K0 (d:(Int×Int×Int×Int×Bool)×Int×Int×Int×Int×Bool):List OB:=[]
def J1:CSp:=XU KF MM YL K0
def JW (dk:Int) (dp:Int) (dh:Int) (dw:Int) (du:Bool) (ek:Int) (ep:Int) (eh:Int) (ew:Int) (eu:Bool):Prop :=
 (True)/\(True)/\(I64 ((Dp dk)-(Dp ek)))/\(((Dp dk)-(Dp ek))=(Dp dk-Dp ek)/\(True))
def Ku:Cx:=⟨[],[(47,Gu)],12,[],0,[],[],[],[],false,[],[],[],[]⟩
def Gy (dk:Int) (dp:Int) (dh:Int) (dw:Int) (du:Bool) (ek:Int) (ep:Int) (eh:Int) (ew:Int) (eu:Bool):List (Nat×LoopAnn):=[]
theorem GC (d:(Int×Int×Int×Int×Bool)×Int×Int×Int×Int×Bool):gwp (Ku) (Gy d.1.1 d.1.2.1 d.1.2.2.1 d.1.2.2.2.1 d.1.2.2.2.2 d.2.1 d.2.2.1 d.2.2.2.1 d.2.2.2.2.1 d.2.2.2.2.2) c46 0 (YI [.tmp 4] (YL d) (K0 d)) (Qv 12 (AL.can KF d))=JW d.1.1 d.1.2.1 d.1.2.2.1 d.1.2.2.2.1 d.1.2.2.2.2 d.2.1 d.2.2.1 d.2.2.2.1 d.2.2.2.2.1 d.2.2.2.2.2:=by kernel_rfl
abbrev Gi:Prop:=OkC Tryz.prog 46 J1
theorem G7 (h:∀ (dk:Int) (dp:Int) (dh:Int) (dw:Int) (du:Bool) (ek:Int) (ep:Int) (eh:Int) (ew:Int) (eu:Bool),(True)->JW dk dp dh dw du ek ep eh ew eu):OkC Tryz.prog 46 J1 :=
 QB Z1g mixed (C:=Ku) (V:=λ(d:(Int×Int×Int×Int×Bool)×Int×Int×Int×Int×Bool)=>JW d.1.1 d.1.2.1 d.1.2.2.1 d.1.2.2.2.1 d.1.2.2.2.2 d.2.1 d.2.2.1 d.2.2.2.1 d.2.2.2.2.1 d.2.2.2.2.2) ⟨(.cons CQ .nil),XsOk.nil,ItsOk.nil,YlOk.nil,IysOk.nil,XfOk.nil⟩ (GC) λd hp=>h d.1.1 d.1.2.1 d.1.2.2.1 d.1.2.2.2.1 d.1.2.2.2.2 d.2.1 d.2.2.1 d.2.2.2.1 d.2.2.2.2.1 d.2.2.2.2.2 hp
theorem XY:Gi:=G7 λdk dp dh dw du ek ep eh ew eu _=>by
 unfold JW;(try delta lI gD sT I64 Q2 pj8 pj4);have h:∀ k,0<=Dp k/\Dp k<=2:=λk=>by unfold Dp;split<;>(try split)<;>omega
 have h1:=h dk;have h2:=h ek;rw[QD];and_intros<;>first|omega|rfl|trivial
def Q_:AL ((List (Int×Int×Int×Int×Bool))×((Int×Int×Int×Int×Bool->Prop)×(Int×Int×Int×Int×Bool->Bool))):=(.cons (.k (.list (.pair (.i .i64) (.pair (.i .i64) (.pair (.i .i64) (.pair (.i .i64) .bo)))))) (.one (.fn [(.pair (.i .i64) (.pair (.i .i64) (.pair (.i .i64) (.pair (.i .i64) .bo))))] .bo)))
def Jh (d:(List (Int×Int×Int×Int×Bool))×((Int×Int×Int×Int×Bool->Prop)×(Int×Int×Int×Int×Bool->Bool))):Prop:=d.1.length<=1000000/\∀ x∈d.1,d.2.1 x
def QV (d:(List (Int×Int×Int×Int×Bool))×((Int×Int×Int×Int×Bool->Prop)×(Int×Int×Int×Int×Bool->Bool))):SV:=.val (.i .i64) (FV d.1 d.2.2)
def QY (d:(List (Int×Int×Int×Int×Bool))×((Int×Int×Int×Int×Bool->Prop)×(Int×Int×Int×Int×Bool->Bool))):List OB:=[]
def Qs:CSp:=XU Q_ Jh QV QY
def Qh (l:List (Int×Int×Int×Int×Bool)) (p:(Int×Int×Int×Int×Bool->Prop)×(Int×Int×Int×Int×Bool->Bool)):Prop :=
 ∃ (e2:Unit) (d20:Int),((l=l/\(SV.pf [(.pair (.i .i64) (.pair (.i .i64) (.pair (.i .i64) (.pair (.i .i64) .bo))))] .bo p.1 p.2=SV.pf [(.pair (.i .i64) (.pair (.i .i64) (.pair (.i .i64) (.pair (.i .i64) .bo))))] .bo p.1 p.2)/\(lI l)=(lI l)/\(0:Int)=d20/\True)/\(True)) /\
 LoopP (λ(d2:Int) (q2:(Int)->Prop) =>
  ((decide (d2<(lI l)))=true ->
   (0<=d2)/\(d2<(List.length l))/\(p.1 ((gD l d2 (0,(0,(0,(0,false))))).1,((gD l d2 (0,(0,(0,(0,false))))).2.1,((gD l d2 (0,(0,(0,(0,false))))).2.2.1,((gD l d2 (0,(0,(0,(0,false))))).2.2.2.1,(gD l d2 (0,(0,(0,(0,false))))).2.2.2.2)))))/\((p.2 ((gD l d2 (0,(0,(0,(0,false))))).1,((gD l d2 (0,(0,(0,(0,false))))).2.1,((gD l d2 (0,(0,(0,(0,false))))).2.2.1,((gD l d2 (0,(0,(0,(0,false))))).2.2.2.1,(gD l d2 (0,(0,(0,(0,false))))).2.2.2.2)))))=true ->
    (d2=(FV l p.2)/\(True))) /\
   ((p.2 ((gD l d2 (0,(0,(0,(0,false))))).1,((gD l d2 (0,(0,(0,(0,false))))).2.1,((gD l d2 (0,(0,(0,(0,false))))).2.2.1,((gD l d2 (0,(0,(0,(0,false))))).2.2.2.1,(gD l d2 (0,(0,(0,(0,false))))).2.2.2.2)))))=false ->
    (I64 (d2+(1:Int)))/\(∃ d3:Int,((l=l/\(SV.pf [(.pair (.i .i64) (.pair (.i .i64) (.pair (.i .i64) (.pair (.i .i64) .bo))))] .bo p.1 p.2=SV.pf [(.pair (.i .i64) (.pair (.i .i64) (.pair (.i .i64) (.pair (.i .i64) .bo))))] .bo p.1 p.2)/\(lI l)=(lI l)/\(d2+(1:Int))=d3/\True)/\(True))/\q2 d3))) /\
  ((decide (d2<(lI l)))=false ->
   ((-1:Int)=(FV l p.2)/\(True)))) d20
def QZ:Cx:=⟨[],[],19,[],0,[],[],[],[],false,[],[],[],[]⟩
def JC (l:List (Int×Int×Int×Int×Bool)) (p:(Int×Int×Int×Int×Bool->Prop)×(Int×Int×Int×Int×Bool->Bool)):List (Nat×LoopAnn):=[(0,⟨Unit,Int,[0,1,7,8],λe x=>[.val (.list (.pair (.i .i64) (.pair (.i .i64) (.pair (.i .i64) (.pair (.i .i64) .bo))))) l,.pf [(.pair (.i .i64) (.pair (.i .i64) (.pair (.i .i64) (.pair (.i .i64) .bo))))] .bo p.1 p.2,.val (.i .i64) (((List.length l):Nat):Int),.val (.i .i64) x],λe x=>[]⟩)]
theorem Jt (d:(List (Int×Int×Int×Int×Bool))×((Int×Int×Int×Int×Bool->Prop)×(Int×Int×Int×Int×Bool->Bool))):gwp (QZ) (JC d.1 d.2) c96 0 (YI [.tmp 4] (QV d) (QY d)) (Qv 19 (AL.can Q_ d))=Qh d.1 d.2:=by kernel_rfl
abbrev Jq:Prop:=OkC Tryz.prog 96 Qs
theorem Ji (h:∀ (l:List (Int×Int×Int×Int×Bool)) (p:(Int×Int×Int×Int×Bool->Prop)×(Int×Int×Int×Int×Bool->Bool)),(l.length<=1000000/\∀ x∈l,p.1 x)->Qh l p):OkC Tryz.prog 96 Qs :=
 QB Z19 mixed (C:=QZ) (V:=λ(d:(List (Int×Int×Int×Int×Bool))×((Int×Int×Int×Int×Bool->Prop)×(Int×Int×Int×Int×Bool->Bool)))=>Qh d.1 d.2) ⟨.nil,XsOk.nil,ItsOk.nil,YlOk.nil,IysOk.nil,XfOk.nil⟩ (Jt) λd hp=>h d.1 d.2 hp
theorem Jj:Jq:=Ji λl p hp=>by
 unfold Qh;(try delta lI gD sT I64 Q2 pj8 pj4);simp only[true_and,and_true,exists_eq_left',exists_const,zf,zy];refine LoopP.count l.length (λk=>(l.take k).any p.2=false) (by simp) λk bD hJ q hq=>?_;simp only[zg,Int.ofNat_lt,QD];refine⟨λal=>?_,λbI=>?_⟩
 .have al:k<l.length:=by omega
  rw[Qj al];refine⟨by omega,by omega,hp.2 _ (zk al),λhx=>?_,λhx=>⟨by omega,hq al ?_⟩⟩
  .rw[ES al hx hJ]
  .rw[ZI al,List.any_append,hJ];simp[hx]
 .rw[x5 (by omega)] at hJ;rw[Rm hJ]
def QO:AL ((List (Int×Int×Int×Int×Bool))×((Int×Int×Int×Int×Bool->Prop)×(Int×Int×Int×Int×Bool->Bool))):=(.cons (.k (.list (.pair (.i .i64) (.pair (.i .i64) (.pair (.i .i64) (.pair (.i .i64) .bo)))))) (.one (.fn [(.pair (.i .i64) (.pair (.i .i64) (.pair (.i .i64) (.pair (.i .i64) .bo))))] .bo)))
def ZV (d:(List (Int×Int×Int×Int×Bool))×((Int×Int×Int×Int×Bool->Prop)×(Int×Int×Int×Int×Bool->Bool))):Prop:=d.1.length<=1000000/\∀ x∈d.1,d.2.1 x
def QL (d:(List (Int×Int×Int×Int×Bool))×((Int×Int×Int×Int×Bool->Prop)×(Int×Int×Int×Int×Bool->Bool))):SV:=.val .bo (d.1.any d.2.2)
def QK (d:(List (Int×Int×Int×Int×Bool))×((Int×Int×Int×Int×Bool->Prop)×(Int×Int×Int×Int×Bool->Bool))):List OB:=[]
def Qp:CSp:=XU QO ZV QL QK
def Qd (l:List (Int×Int×Int×Int×Bool)) (p:(Int×Int×Int×Int×Bool->Prop)×(Int×Int×Int×Int×Bool->Bool)):Prop :=
 (l.length<=1000000/\∀ x∈l,(λ(x1:Int×Int×Int×Int×Bool)=>p.1 (x1.1,(x1.2.1,(x1.2.2.1,(x1.2.2.2.1,x1.2.2.2.2))))) x)/\((decide ((FV l (λ(x1:Int×Int×Int×Int×Bool)=>(p.2 (x1.1,(x1.2.1,(x1.2.2.1,(x1.2.2.2.1,x1.2.2.2.2)))))))>=(0:Int)))=(l.any p.2)/\(True))
def QN:Cx:=⟨[],[(96,Qs)],9,[],0,[],[],[],[],false,[],[],[],[]⟩
def J3 (l:List (Int×Int×Int×Int×Bool)) (p:(Int×Int×Int×Int×Bool->Prop)×(Int×Int×Int×Int×Bool->Bool)):List (Nat×LoopAnn):=[]
theorem ZZ (d:(List (Int×Int×Int×Int×Bool))×((Int×Int×Int×Int×Bool->Prop)×(Int×Int×Int×Int×Bool->Bool))):gwp (QN) (J3 d.1 d.2) c65 0 (YI [.tmp 4] (QL d) (QK d)) (Qv 9 (AL.can QO d))=Qd d.1 d.2:=by kernel_rfl
abbrev J0:Prop:=OkC Tryz.prog 65 Qp
theorem ZX (h:∀ (l:List (Int×Int×Int×Int×Bool)) (p:(Int×Int×Int×Int×Bool->Prop)×(Int×Int×Int×Int×Bool->Bool)),(l.length<=1000000/\∀ x∈l,p.1 x)->Qd l p):OkC Tryz.prog 65 Qp :=
 QB Z0w mixed (C:=QN) (V:=λ(d:(List (Int×Int×Int×Int×Bool))×((Int×Int×Int×Int×Bool->Prop)×(Int×Int×Int×Int×Bool->Bool)))=>Qd d.1 d.2) ⟨(.cons Jj .nil),XsOk.nil,ItsOk.nil,YlOk.nil,IysOk.nil,XfOk.nil⟩ (ZZ) λd hp=>h d.1 d.2 hp
theorem Z_:J0:=ZX λl p hp=>by simp only[Qd];exact⟨hp,Iw l p.2,trivial⟩
def Z9:AL (Unit):=(.one .nilS)
def JU (d:Unit):Prop:=True
def Z4 (d:Unit):SV:=.lst 0
def Z5 (d:Unit):List OB:=[.lst 37 (.pair (.i .i64) (.pair (.i .i64) (.pair (.i .i64) (.pair (.i .i64) .bo)))) ([]:List Dmg) true]
def Qn:CSp:=XU Z9 JU Z4 Z5
def Ql :Prop :=
 (True/\((([]:List Dmg)=[]/\true=true)/\True))
def Zb:Cx:=⟨[],[],8,[3000004],0,[],[],[],[],false,[],[],[4],[]⟩
def X0 :List (Nat×LoopAnn):=[]
theorem X3 (d:Unit):gwp (Zb) (X0 ) c44 0 (YI [.tmp 2] (Z4 d) (Z5 d)) (Qv 8 (AL.can Z9 d))=Ql :=by kernel_rfl
abbrev X4:Prop:=OkC Tryz.prog 44 Qn
theorem X2 (h:(True)->Ql ):OkC Tryz.prog 44 Qn :=
 QB Q8r mixed (C:=Zb) (V:=λ(d:Unit)=>Ql ) ⟨.nil,XsOk.nil,ItsOk.nil,YlOk.nil,IysOk.nil,XfOk.nil⟩ (X3) λd hp=>h  hp
theorem Zc:X4:=X2 λ_=>by unfold Ql;(try delta lI gD sT I64 Q2 pj8 pj4);and_intros<;>first|rfl|trivial
def QX:AL (List (Int×Int×Int×Int×Bool)):=(.one (.k (.list (.pair (.i .i64) (.pair (.i .i64) (.pair (.i .i64) (.pair (.i .i64) .bo)))))))
def J9 (d:List (Int×Int×Int×Int×Bool)):Prop:=d≠[]/\d.length<=110
def QS (d:List (Int×Int×Int×Int×Bool)):SV:=.lst 0
def QQ (d:List (Int×Int×Int×Int×Bool)):List OB:=[.lst 37 (.pair (.i .i64) (.pair (.i .i64) (.pair (.i .i64) (.pair (.i .i64) .bo)))) d false]
def Qg:CSp:=XU QX J9 QS QQ
def Qf (l:List (Int×Int×Int×Int×Bool)):Prop :=
 (l≠[])/\(false=true ->
  (True/\((l=[]/\false=true)/\True))) /\
 (false=false ->
  (((List.length ([]:List (Int×Int×Int×Int×Bool)))+(List.length l))*40<=70368744177664)/\(True/\(((([]:List (Int×Int×Int×Int×Bool))++l)=l/\((List.isEmpty l)&&false)=false)/\True)))
def QU:Cx:=⟨[(37,(.pair (.i .i64) (.pair (.i .i64) (.pair (.i .i64) (.pair (.i .i64) .bo)))))],[],8,[],0,[],[],[],[],false,[],[],[],[]⟩
def Jf (l:List (Int×Int×Int×Int×Bool)):List (Nat×LoopAnn):=[]
theorem Jd (d:List (Int×Int×Int×Int×Bool)):gwp (QU) (Jf d) c44 0 (YI [.tmp 2] (QS d) (QQ d)) (Qv 8 (AL.can QX d))=Qf d:=by kernel_rfl
abbrev Jc:Prop:=OkC Tryz.prog 44 Qg
theorem Je (h:∀ (l:List (Int×Int×Int×Int×Bool)),(l≠[]/\l.length<=110)->Qf l):OkC Tryz.prog 44 Qg :=
 QB Q8r mixed (C:=QU) (V:=λ(d:List (Int×Int×Int×Int×Bool))=>Qf d) ⟨.nil,XsOk.nil,ItsOk.nil,YlOk.nil,IysOk.nil,XfOk.nil⟩ (Jd) λd hp=>h d hp
theorem QW:Jc:=Je λl h=>by unfold Qf;(try delta lI gD sT I64 Q2 pj8 pj4);refine⟨h.1,λh=>(by cases h),λ_=>⟨by have:=h.2;simp only[List.length_nil];omega,?_⟩⟩;and_intros<;>first|rfl|trivial|simp
def Ut:AL (Int×List Int×Int×List Int):=(.one (.agg (.cons (.k (.i .i64)) (.cons (.k (.list (.i .i64))) (.cons (.k (.i .i64)) (.one (.k (.list (.i .i64)))))))))
def BD (d:Int×List Int×Int×List Int):Prop:=d.2.1.length<=110/\d.2.2.2.length<=110
def Ug (d:Int×List Int×Int×List Int):SV:=.val (.i .i64) (Qb d.1 d.2.1 d.2.2.1 d.2.2.2)
def VT (d:Int×List Int×Int×List Int):List OB:=[]
def K8:CSp:=XU Ut BD Ug VT
def XN (hk:Int) (lw:List Int) (hd:Int) (rows:List Int):Prop :=
 (lw.length<=1000000)/\(((Zp hk lw) != (0:Int))=true ->
  ((Zp hk lw)=(Qb hk lw hd rows)/\(True))) /\
 (((Zp hk lw) != (0:Int))=false ->
  (rows.length<=1000000)/\(((Qe hd rows) != (0:Int))=true ->
   ((Qe hd rows)=(Qb hk lw hd rows)/\(True))) /\
  (((Qe hd rows) != (0:Int))=false ->
   ((hk != hd)=true ->
    ((4:Int)=(Qb hk lw hd rows)/\(True))) /\
   ((hk != hd)=false ->
    ((0:Int)=(Qb hk lw hd rows)/\(True)))))
def Ux:Cx:=⟨[],[(49,U6),(35,Yl)],24,[],0,[],[],[],[],false,[],[],[],[]⟩
def Hx (hk:Int) (lw:List Int) (hd:Int) (rows:List Int):List (Nat×LoopAnn):=[]
theorem HN (d:Int×List Int×Int×List Int):gwp (Ux) (Hx d.1 d.2.1 d.2.2.1 d.2.2.2) c59 0 (YI [.tmp 2] (Ug d) (VT d)) (Qv 24 (AL.can Ut d))=XN d.1 d.2.1 d.2.2.1 d.2.2.2:=by kernel_rfl
abbrev H2:Prop:=OkC Tryz.prog 59 K8
theorem HM (h:∀ (hk:Int) (lw:List Int) (hd:Int) (rows:List Int),(lw.length<=110/\rows.length<=110)->XN hk lw hd rows):OkC Tryz.prog 59 K8 :=
 QB Z0o mixed (C:=Ux) (V:=λ(d:Int×List Int×Int×List Int)=>XN d.1 d.2.1 d.2.2.1 d.2.2.2) ⟨(.cons G6 (.cons UU .nil)),XsOk.nil,ItsOk.nil,YlOk.nil,IysOk.nil,XfOk.nil⟩ (HN) λd hp=>h d.1 d.2.1 d.2.2.1 d.2.2.2 hp
theorem H5:H2:=HM λhk lw hd rows h=>by
 unfold XN;(try delta lI gD sT I64 Q2 pj8 pj4);simp only[bne_iff_ne,bne_eq_false_iff_eq,ne_eq];refine⟨by omega,λh1=>?_,λh1=>⟨by omega,λh2=>?_,λh2=>⟨λh3=>?_,λh3=>?_⟩⟩⟩
 .have:Qb hk lw hd rows=Zp hk lw:=by unfold Qb;rw[z7 h1]
  rw[this];and_intros<;>first|rfl|trivial
 .have:Qb hk lw hd rows=Qe hd rows:=by unfold Qb;rw[z6 (by omega),z7 h2]
  rw[this];and_intros<;>first|rfl|trivial
 .have:Qb hk lw hd rows=4:=by unfold Qb;rw[z6 (by omega),z6 (by omega),z7 (by omega)]
  rw[this];and_intros<;>first|rfl|trivial
 .have:Qb hk lw hd rows=0:=by unfold Qb;rw[z6 (by omega),z6 (by omega),z6 (by omega)]
  rw[this];and_intros<;>first|rfl|trivial
def YX:AL ((Int×List Int×Int×List Int)×Int×Int×Int×Int×Bool):=(.cons (.agg (.cons (.k (.i .i64)) (.cons (.k (.list (.i .i64))) (.cons (.k (.i .i64)) (.one (.k (.list (.i .i64)))))))) (.one (.agg (.cons (.k (.i .i64)) (.cons (.k (.i .i64)) (.cons (.k (.i .i64)) (.cons (.k (.i .i64)) (.one (.k .bo)))))))))
def M9 (d:(Int×List Int×Int×List Int)×Int×Int×Int×Int×Bool):Prop:=d.1.2.1.length<=110/\d.1.2.2.2.length<=110/\1<=d.1.2.2.1/\d.1.2.2.1<=24
def Yy (d:(Int×List Int×Int×List Int)×Int×Int×Int×Int×Bool):SV:=.val .bo (Ho d.1.2.2.1 d.1.2.2.2 d.1.2.1 (d.2.1,(d.2.2.1,(d.2.2.2.1,(d.2.2.2.2.1,d.2.2.2.2.2)))))
def Yh (d:(Int×List Int×Int×List Int)×Int×Int×Int×Int×Bool):List OB:=[]
def Wa:CSp:=XU YX M9 Yy Yh
def JD (hk:Int) (lw:List Int) (hd:Int) (rows:List Int) (dk:Int) (dp:Int) (dh:Int) (dw:Int) (du:Bool):Prop :=
 ∀ (y1:Bool),y1=(dk==(1:Int))->(y1=true ->
  ∀ (y2:Bool),y2=((dk==dk)&&((dp==dp)&&((dh==dh)&&((dw==(0:Int))&&(du==false)))))->∀ (y3:Bool),y3=(true&&y2)->(y3=true->InK .i64 ((lI rows)-(1:Int)))/\(y3=true->True)/\(y3=true->[dp].length<=1000000)/\∀ (y4:Bool),y4=(y3&&(!([dp].any λn=>decide (n<(0:Int))||decide (((lI rows)-(1:Int))<n))))->(y4=true->InK .i64 (hd-(1:Int)))/\(y4=true->True)/\(y4=true->[dh].length<=1000000)/\∀ (y5:Bool),y5=(y4&&(!([dh].any λn=>decide (n<(0:Int))||decide ((hd-(1:Int))<n))))->(y5=true->InK .i64 ((lI lw)-(1:Int)))/\(y5=true->True)/\(y5=true->[dw].length<=1000000)/\∀ (y6:Bool),y6=(y5&&(!([dw].any λn=>decide (n<(0:Int))||decide (((lI lw)-(1:Int))<n))))->(y6=(Ho hd rows lw (dk,(dp,(dh,(dw,du)))))/\(True))) /\
 (y1=false ->
  ∀ (y7:Bool),y7=(dk==(2:Int))->(y7=true ->
   ∀ (y8:Bool),y8=((dk==dk)&&((dp==(0:Int))&&((dh==dh)&&((dw==(0:Int))&&(du==du)))))->∀ (y9:Bool),y9=(true&&y8)->(y9=true->InK .i64 ((lI rows)-(1:Int)))/\(y9=true->True)/\(y9=true->[dp].length<=1000000)/\∀ (jM:Bool),jM=(y9&&(!([dp].any λn=>decide (n<(0:Int))||decide (((lI rows)-(1:Int))<n))))->(jM=true->InK .i64 (hd-(1:Int)))/\(jM=true->True)/\(jM=true->[dh].length<=1000000)/\∀ (jN:Bool),jN=(jM&&(!([dh].any λn=>decide (n<(0:Int))||decide ((hd-(1:Int))<n))))->(jN=true->InK .i64 ((lI lw)-(1:Int)))/\(jN=true->True)/\(jN=true->[dw].length<=1000000)/\∀ (ny:Bool),ny=(jN&&(!([dw].any λn=>decide (n<(0:Int))||decide (((lI lw)-(1:Int))<n))))->(ny=(Ho hd rows lw (dk,(dp,(dh,(dw,du)))))/\(True))) /\
  (y7=false ->
   ∀ (jO:Bool),jO=(dk==(3:Int))->(jO=true ->
    (jO=true ->
     ∀ (nz:Bool),nz=((dk==dk)&&((dp==dp)&&((dh==(0:Int))&&((dw==(0:Int))&&(du==false)))))->∀ (jP:Bool),jP=(true&&nz)->(jP=true->InK .i64 ((lI rows)-(1:Int)))/\(jP=true->True)/\(jP=true->[dp].length<=1000000)/\∀ (jQ:Bool),jQ=(jP&&(!([dp].any λn=>decide (n<(0:Int))||decide (((lI rows)-(1:Int))<n))))->(jQ=true->InK .i64 (hd-(1:Int)))/\(jQ=true->True)/\(jQ=true->[dh].length<=1000000)/\∀ (jR:Bool),jR=(jQ&&(!([dh].any λn=>decide (n<(0:Int))||decide ((hd-(1:Int))<n))))->(jR=true->InK .i64 ((lI lw)-(1:Int)))/\(jR=true->True)/\(jR=true->[dw].length<=1000000)/\∀ (lG:Bool),lG=(jR&&(!([dw].any λn=>decide (n<(0:Int))||decide (((lI lw)-(1:Int))<n))))->(lG=(Ho hd rows lw (dk,(dp,(dh,(dw,du)))))/\(True))) /\
    (jO=false ->
     ∀ (qk:Bool),qk=(dk==(5:Int))->(qk=true ->
      ∀ (rI:Bool),rI=((dk==dk)&&((dp==(0:Int))&&((dh==(0:Int))&&((dw==dw)&&(du==false)))))->∀ (nB:Bool),nB=(true&&rI)->(nB=true->InK .i64 ((lI rows)-(1:Int)))/\(nB=true->True)/\(nB=true->[dp].length<=1000000)/\∀ (nC:Bool),nC=(nB&&(!([dp].any λn=>decide (n<(0:Int))||decide (((lI rows)-(1:Int))<n))))->(nC=true->InK .i64 (hd-(1:Int)))/\(nC=true->True)/\(nC=true->[dh].length<=1000000)/\∀ (nD:Bool),nD=(nC&&(!([dh].any λn=>decide (n<(0:Int))||decide ((hd-(1:Int))<n))))->(nD=true->InK .i64 ((lI lw)-(1:Int)))/\(nD=true->True)/\(nD=true->[dw].length<=1000000)/\∀ (rJ:Bool),rJ=(nD&&(!([dw].any λn=>decide (n<(0:Int))||decide (((lI lw)-(1:Int))<n))))->(rJ=(Ho hd rows lw (dk,(dp,(dh,(dw,du)))))/\(True))) /\
     (qk=false ->
      ∀ (rK:Bool),rK=((dk==dk)&&((dp==(0:Int))&&((dh==(0:Int))&&((dw==(0:Int))&&(du==false)))))->∀ (nE:Bool),nE=(false&&rK)->(nE=true->InK .i64 ((lI rows)-(1:Int)))/\(nE=true->True)/\(nE=true->[dp].length<=1000000)/\∀ (nF:Bool),nF=(nE&&(!([dp].any λn=>decide (n<(0:Int))||decide (((lI rows)-(1:Int))<n))))->(nF=true->InK .i64 (hd-(1:Int)))/\(nF=true->True)/\(nF=true->[dh].length<=1000000)/\∀ (nG:Bool),nG=(nF&&(!([dh].any λn=>decide (n<(0:Int))||decide ((hd-(1:Int))<n))))->(nG=true->InK .i64 ((lI lw)-(1:Int)))/\(nG=true->True)/\(nG=true->[dw].length<=1000000)/\∀ (rL:Bool),rL=(nG&&(!([dw].any λn=>decide (n<(0:Int))||decide (((lI lw)-(1:Int))<n))))->(rL=(Ho hd rows lw (dk,(dp,(dh,(dw,du)))))/\(True))))) /\
   (jO=false ->
    ∀ (ql:Bool),ql=(dk==(4:Int))->(ql=true ->
     ∀ (rM:Bool),rM=((dk==dk)&&((dp==dp)&&((dh==(0:Int))&&((dw==(0:Int))&&(du==false)))))->∀ (nH:Bool),nH=(true&&rM)->(nH=true->InK .i64 ((lI rows)-(1:Int)))/\(nH=true->True)/\(nH=true->[dp].length<=1000000)/\∀ (nJ:Bool),nJ=(nH&&(!([dp].any λn=>decide (n<(0:Int))||decide (((lI rows)-(1:Int))<n))))->(nJ=true->InK .i64 (hd-(1:Int)))/\(nJ=true->True)/\(nJ=true->[dh].length<=1000000)/\∀ (nK:Bool),nK=(nJ&&(!([dh].any λn=>decide (n<(0:Int))||decide ((hd-(1:Int))<n))))->(nK=true->InK .i64 ((lI lw)-(1:Int)))/\(nK=true->True)/\(nK=true->[dw].length<=1000000)/\∀ (rN:Bool),rN=(nK&&(!([dw].any λn=>decide (n<(0:Int))||decide (((lI lw)-(1:Int))<n))))->(rN=(Ho hd rows lw (dk,(dp,(dh,(dw,du)))))/\(True))) /\
    (ql=false ->
     ∀ (qm:Bool),qm=(dk==(5:Int))->(qm=true ->
      ∀ (rO:Bool),rO=((dk==dk)&&((dp==(0:Int))&&((dh==(0:Int))&&((dw==dw)&&(du==false)))))->∀ (nL:Bool),nL=(true&&rO)->(nL=true->InK .i64 ((lI rows)-(1:Int)))/\(nL=true->True)/\(nL=true->[dp].length<=1000000)/\∀ (nM:Bool),nM=(nL&&(!([dp].any λn=>decide (n<(0:Int))||decide (((lI rows)-(1:Int))<n))))->(nM=true->InK .i64 (hd-(1:Int)))/\(nM=true->True)/\(nM=true->[dh].length<=1000000)/\∀ (nN:Bool),nN=(nM&&(!([dh].any λn=>decide (n<(0:Int))||decide ((hd-(1:Int))<n))))->(nN=true->InK .i64 ((lI lw)-(1:Int)))/\(nN=true->True)/\(nN=true->[dw].length<=1000000)/\∀ (rP:Bool),rP=(nN&&(!([dw].any λn=>decide (n<(0:Int))||decide (((lI lw)-(1:Int))<n))))->(rP=(Ho hd rows lw (dk,(dp,(dh,(dw,du)))))/\(True))) /\
     (qm=false ->
      ∀ (rQ:Bool),rQ=((dk==dk)&&((dp==(0:Int))&&((dh==(0:Int))&&((dw==(0:Int))&&(du==false)))))->∀ (nO:Bool),nO=(false&&rQ)->(nO=true->InK .i64 ((lI rows)-(1:Int)))/\(nO=true->True)/\(nO=true->[dp].length<=1000000)/\∀ (nP:Bool),nP=(nO&&(!([dp].any λn=>decide (n<(0:Int))||decide (((lI rows)-(1:Int))<n))))->(nP=true->InK .i64 (hd-(1:Int)))/\(nP=true->True)/\(nP=true->[dh].length<=1000000)/\∀ (nQ:Bool),nQ=(nP&&(!([dh].any λn=>decide (n<(0:Int))||decide ((hd-(1:Int))<n))))->(nQ=true->InK .i64 ((lI lw)-(1:Int)))/\(nQ=true->True)/\(nQ=true->[dw].length<=1000000)/\∀ (rR:Bool),rR=(nQ&&(!([dw].any λn=>decide (n<(0:Int))||decide (((lI lw)-(1:Int))<n))))->(rR=(Ho hd rows lw (dk,(dp,(dh,(dw,du)))))/\(True)))))))
def YS:Cx:=⟨[(3,(.i .i64))],[(42,Ke)],80,[],0,[],[],[],[],true,[],[],[],[]⟩
def MJ (hk:Int) (lw:List Int) (hd:Int) (rows:List Int) (dk:Int) (dp:Int) (dh:Int) (dw:Int) (du:Bool):List (Nat×LoopAnn):=[]
theorem Mz (d:(Int×List Int×Int×List Int)×Int×Int×Int×Int×Bool):gwp (YS) (MJ d.1.1 d.1.2.1 d.1.2.2.1 d.1.2.2.2 d.2.1 d.2.2.1 d.2.2.2.1 d.2.2.2.2.1 d.2.2.2.2.2) c64 0 (YI [.tmp 4] (Yy d) (Yh d)) (Qv 80 (AL.can YX d))=JD d.1.1 d.1.2.1 d.1.2.2.1 d.1.2.2.2 d.2.1 d.2.2.1 d.2.2.2.1 d.2.2.2.2.1 d.2.2.2.2.2:=by kernel_rfl
abbrev MI:Prop:=OkC Tryz.prog 64 Wa
theorem ML (h:∀ (hk:Int) (lw:List Int) (hd:Int) (rows:List Int) (dk:Int) (dp:Int) (dh:Int) (dw:Int) (du:Bool),(lw.length<=110/\rows.length<=110/\1<=hd/\hd<=24)->JD hk lw hd rows dk dp dh dw du):OkC Tryz.prog 64 Wa :=
 QB Z0r mixed (C:=YS) (V:=λ(d:(Int×List Int×Int×List Int)×Int×Int×Int×Int×Bool)=>JD d.1.1 d.1.2.1 d.1.2.2.1 d.1.2.2.2 d.2.1 d.2.2.1 d.2.2.2.1 d.2.2.2.2.1 d.2.2.2.2.2) ⟨(.cons GF .nil),XsOk.nil,ItsOk.nil,YlOk.nil,IysOk.nil,XfOk.nil⟩ (Mz) λd hp=>h d.1.1 d.1.2.1 d.1.2.2.1 d.1.2.2.2 d.2.1 d.2.2.1 d.2.2.2.1 d.2.2.2.2.1 d.2.2.2.2.2 hp
theorem MG:MI:=ML λhk lw hd rows dk dp dh dw du h=>by
 unfold JD;(try delta lI gD sT I64 Q2 pj8 pj4);have e:∀ n a b:Int,(decide (n<a)||decide (b<n))=!inI n a b:=λn a b=>(nI n a b).symm;simp only[QD,List.any_cons,List.any_nil,xX,x9,List.length_nil,e,Bool.not_not,beq_self_eq_true,Bool.true_and,Bool.false_and]
 repeat' first
  |(refine And.intro ?_ ?_)
  |(intro _)
 all_goals first
  |trivial
  |omega
  |(subst_vars;unfold Ho;generalize inI dp 0 _=a;generalize inI dh 0 _=b;generalize inI dw 0 _=c;cases du<;>cases a<;>cases b<;>cases c<;>simp_all (config:={decide:=true}) [inI]<;>omega)
def Mh:AL ((Int×Int×Int×Int×Bool)×Int×List Int×Int×List Int):=(.cons (.agg (.cons (.k (.i .i64)) (.cons (.k (.i .i64)) (.cons (.k (.i .i64)) (.cons (.k (.i .i64)) (.one (.k .bo))))))) (.one (.ptr (.cons (.k (.i .i64)) (.cons (.k (.list (.i .i64))) (.cons (.k (.i .i64)) (.one (.k (.list (.i .i64))))))))))
def P2 (d:(Int×Int×Int×Int×Bool)×Int×List Int×Int×List Int):Prop:=d.2.2.1.length<=110/\d.2.2.2.2.length<=110/\1<=d.2.2.2.1/\d.2.2.2.1<=24
def Nf (d:(Int×Int×Int×Int×Bool)×Int×List Int×Int×List Int):SV:=.val .bo (!Ho d.2.2.2.1 d.2.2.2.2 d.2.2.1 (d.1.1,(d.1.2.1,(d.1.2.2.1,(d.1.2.2.2.1,d.1.2.2.2.2)))))
def Nj (d:(Int×Int×Int×Int×Bool)×Int×List Int×Int×List Int):List OB:=[]
def VW:CSp:=XU Mh P2 Nf Nj
def WZ (dk:Int) (dp:Int) (dh:Int) (dw:Int) (du:Bool) (hk:Int) (lw:List Int) (hd:Int) (rows:List Int):Prop :=
 (lw.length<=110/\rows.length<=110/\1<=hd/\hd<=24)/\((!(Ho hd rows lw (dk,(dp,(dh,(dw,du))))))=(!Ho hd rows lw (dk,(dp,(dh,(dw,du)))))/\(True))
def Mc:Cx:=⟨[],[(64,Wa)],9,[],0,[],[],[],[],false,[],[],[],[]⟩
def Ta (dk:Int) (dp:Int) (dh:Int) (dw:Int) (du:Bool) (hk:Int) (lw:List Int) (hd:Int) (rows:List Int):List (Nat×LoopAnn):=[]
theorem Th (d:(Int×Int×Int×Int×Bool)×Int×List Int×Int×List Int):gwp (Mc) (Ta d.1.1 d.1.2.1 d.1.2.2.1 d.1.2.2.2.1 d.1.2.2.2.2 d.2.1 d.2.2.1 d.2.2.2.1 d.2.2.2.2) c63 0 (YI [.tmp 3] (Nf d) (Nj d)) (Qv 9 (AL.can Mh d))=WZ d.1.1 d.1.2.1 d.1.2.2.1 d.1.2.2.2.1 d.1.2.2.2.2 d.2.1 d.2.2.1 d.2.2.2.1 d.2.2.2.2:=by kernel_rfl
abbrev Tf:Prop:=OkC Tryz.prog 63 VW
theorem Tv (h:∀ (dk:Int) (dp:Int) (dh:Int) (dw:Int) (du:Bool) (hk:Int) (lw:List Int) (hd:Int) (rows:List Int),(lw.length<=110/\rows.length<=110/\1<=hd/\hd<=24)->WZ dk dp dh dw du hk lw hd rows):OkC Tryz.prog 63 VW :=
 QB Z2g mixed (C:=Mc) (V:=λ(d:(Int×Int×Int×Int×Bool)×Int×List Int×Int×List Int)=>WZ d.1.1 d.1.2.1 d.1.2.2.1 d.1.2.2.2.1 d.1.2.2.2.2 d.2.1 d.2.2.1 d.2.2.2.1 d.2.2.2.2) ⟨(.cons MG .nil),XsOk.nil,ItsOk.nil,YlOk.nil,IysOk.nil,XfOk.nil⟩ (Th) λd hp=>h d.1.1 d.1.2.1 d.1.2.2.1 d.1.2.2.2.1 d.1.2.2.2.2 d.2.1 d.2.2.1 d.2.2.2.1 d.2.2.2.2 hp
theorem TA:Tf:=Tv λdk dp dh dw du hk lw hd rows h=>by unfold WZ;(try delta lI gD sT I64 Q2 pj8 pj4);and_intros<;>first|omega|rfl|trivial
def DA:AL ((Int×List Int×Int×List Int)×List (Int×Int×Int×Int×Bool)):=(.cons (.agg (.cons (.k (.i .i64)) (.cons (.k (.list (.i .i64))) (.cons (.k (.i .i64)) (.one (.k (.list (.i .i64)))))))) (.one (.k (.list (.pair (.i .i64) (.pair (.i .i64) (.pair (.i .i64) (.pair (.i .i64) .bo))))))))
def Sp (d:(Int×List Int×Int×List Int)×List (Int×Int×Int×Int×Bool)):Prop:=d.1.2.1.length<=110/\d.1.2.2.2.length<=110/\d.2.length<=1000
def GW (d:(Int×List Int×Int×List Int)×List (Int×Int×Int×Int×Bool)):SV:=.val (.i .i64) (W4 d.1.1 d.1.2.1 d.1.2.2.1 d.1.2.2.2 d.2)
def GL (d:(Int×List Int×Int×List Int)×List (Int×Int×Int×Int×Bool)):List OB:=[]
def NP:CSp:=XU DA Sp GW GL
def Km (hk:Int) (lw:List Int) (hd:Int) (rows:List Int) (ds:List (Int×Int×Int×Int×Bool)):Prop :=
 (lw.length<=110/\rows.length<=110)/\(((Qb hk lw hd rows) != (0:Int))=true ->
  ((Qb hk lw hd rows)=(W4 hk lw hd rows ds)/\(True))) /\
 (((Qb hk lw hd rows) != (0:Int))=false ->
  ((decide ((lI ds) > (100:Int)))=true ->
   ((5:Int)=(W4 hk lw hd rows ds)/\(True))) /\
  ((decide ((lI ds) > (100:Int)))=false ->
   (ds.length<=1000000/\∀ x∈ds,(λ(x1:Int×Int×Int×Int×Bool)=>lw.length<=110/\rows.length<=110/\1<=hd/\hd<=24) x)/\((ds.any (λ(x1:Int×Int×Int×Int×Bool)=>(!Ho hd rows lw (x1.1,(x1.2.1,(x1.2.2.1,(x1.2.2.2.1,x1.2.2.2.2)))))))=true ->
    ((2:Int)=(W4 hk lw hd rows ds)/\(True))) /\
   ((ds.any (λ(x1:Int×Int×Int×Int×Bool)=>(!Ho hd rows lw (x1.1,(x1.2.1,(x1.2.2.1,(x1.2.2.2.1,x1.2.2.2.2)))))))=false ->
    ((0:Int)=(W4 hk lw hd rows ds)/\(True)))))
def Bg:Cx:=⟨[],[(59,K8),(65,Qp),(63,VW)],21,[],0,[],[],[],[],false,[],[],[],[]⟩
def L3 (hk:Int) (lw:List Int) (hd:Int) (rows:List Int) (ds:List (Int×Int×Int×Int×Bool)):List (Nat×LoopAnn):=[]
theorem Lu (d:(Int×List Int×Int×List Int)×List (Int×Int×Int×Int×Bool)):gwp (Bg) (L3 d.1.1 d.1.2.1 d.1.2.2.1 d.1.2.2.2 d.2) c41 0 (YI [.tmp 4] (GW d) (GL d)) (Qv 21 (AL.can DA d))=Km d.1.1 d.1.2.1 d.1.2.2.1 d.1.2.2.2 d.2:=by kernel_rfl
abbrev Lx:Prop:=OkC Tryz.prog 41 NP
theorem SU (h:∀ (hk:Int) (lw:List Int) (hd:Int) (rows:List Int) (ds:List (Int×Int×Int×Int×Bool)),(lw.length<=110/\rows.length<=110/\ds.length<=1000)->Km hk lw hd rows ds):OkC Tryz.prog 41 NP :=
 QB Z0s mixed (C:=Bg) (V:=λ(d:(Int×List Int×Int×List Int)×List (Int×Int×Int×Int×Bool))=>Km d.1.1 d.1.2.1 d.1.2.2.1 d.1.2.2.2 d.2) ⟨(.cons H5 (.cons Z_ (.cons TA .nil))),XsOk.nil,ItsOk.nil,YlOk.nil,IysOk.nil,XfOk.nil⟩ (Lu) λd hp=>h d.1.1 d.1.2.1 d.1.2.2.1 d.1.2.2.2 d.2 hp
theorem LA:Lx:=SU λhk lw hd rows ds h=>by
 obtain⟨g1,g2,g3⟩:lw.length<=110/\rows.length<=110/\ds.length<=1000:=by omega
 unfold Km;(try delta lI gD sT I64 Q2 pj8 pj4);simp only[bne_iff_ne,bne_eq_false_iff_eq,ne_eq,zf,zy];have hh:Qb hk lw hd rows=0->1<=hd/\hd<=24:=λe=>by
  unfold Qb at e;split at e
  .omega
  .split at e
   .omega
   .rename_i _ e2;have e3:Qe hd rows=0:=by omega
    unfold Qe at e3;split at e3
    .cases e3
    .rename_i e4;have e5:inI hd 1 24=true:=by simpa using e4
     simpa [inI] using e5
 refine⟨⟨g1,g2⟩,λh1=>?_,λh1=>⟨λh2=>?_,λh2=>⟨⟨by omega,λ_ _=>⟨g1,g2,hh (by omega)⟩⟩,λh3=>?_,λh3=>?_⟩⟩⟩
 .have:W4 hk lw hd rows ds=Qb hk lw hd rows:=by unfold W4;rw[z7 h1]
  rw[this];and_intros<;>first|rfl|trivial
 .have:W4 hk lw hd rows ds=5:=by unfold W4;rw[z6 (by omega),z7 (by omega)]
  rw[this];and_intros<;>first|rfl|trivial
 .have:W4 hk lw hd rows ds=2:=by unfold W4;rw[z6 (by omega),z6 (by omega),z7 h3]
  rw[this];and_intros<;>first|rfl|trivial
 .have:W4 hk lw hd rows ds=0:=by unfold W4;rw[z6 (by omega),z6 (by omega),z6 (by rw[show (ds.any λd=>!Ho hd rows lw d)=false from h3];decide)]
  rw[this];and_intros<;>first|rfl|trivial
def HR:AL ((Int×List Int×Int×List Int)×(List (Int×Int×Int×Int×Bool))×Int):=(.cons (.agg (.cons (.k (.i .i64)) (.cons (.k (.list (.i .i64))) (.cons (.k (.i .i64)) (.one (.k (.list (.i .i64)))))))) (.cons (.k (.list (.pair (.i .i64) (.pair (.i .i64) (.pair (.i .i64) (.pair (.i .i64) .bo)))))) (.one (.k (.i .i64)))))
def Lh (d:(Int×List Int×Int×List Int)×(List (Int×Int×Int×Int×Bool))×Int):Prop:=d.1.2.1.length<=110/\d.1.2.2.2.length<=110/\d.2.1.length<=1000
def DX (d:(Int×List Int×Int×List Int)×(List (Int×Int×Int×Int×Bool))×Int):SV:=.val (.i .i64) (Qr d.1.1 d.1.2.1 d.1.2.2.1 d.1.2.2.2 d.2.1 d.2.2)
def DY (d:(Int×List Int×Int×List Int)×(List (Int×Int×Int×Int×Bool))×Int):List OB:=[]
def UJ:CSp:=XU HR Lh DX DY
def Vx (hk:Int) (lw:List Int) (hd:Int) (rows:List Int) (ds:List (Int×Int×Int×Int×Bool)) (n:Int):Prop :=
 (lw.length<=110/\rows.length<=110/\ds.length<=1000)/\(((W4 hk lw hd rows ds) != (0:Int))=true ->
  ((W4 hk lw hd rows ds)=(Qr hk lw hd rows ds n)/\(True))) /\
 (((W4 hk lw hd rows ds) != (0:Int))=false ->
  ([n].length<=1000000)/\((!(!([n].any λn=>decide (n<(1:Int))||decide ((120:Int)<n))))=true ->
   ((3:Int)=(Qr hk lw hd rows ds n)/\(True))) /\
  ((!(!([n].any λn=>decide (n<(1:Int))||decide ((120:Int)<n))))=false ->
   ((0:Int)=(Qr hk lw hd rows ds n)/\(True))))
def Hr:Cx:=⟨[(3,(.i .i64))],[(41,NP),(42,Ke)],18,[],0,[],[],[],[],false,[],[],[],[]⟩
def AR (hk:Int) (lw:List Int) (hd:Int) (rows:List Int) (ds:List (Int×Int×Int×Int×Bool)) (n:Int):List (Nat×LoopAnn):=[]
theorem AK (d:(Int×List Int×Int×List Int)×(List (Int×Int×Int×Int×Bool))×Int):gwp (Hr) (AR d.1.1 d.1.2.1 d.1.2.2.1 d.1.2.2.2 d.2.1 d.2.2) c23 0 (YI [.tmp 6] (DX d) (DY d)) (Qv 18 (AL.can HR d))=Vx d.1.1 d.1.2.1 d.1.2.2.1 d.1.2.2.2 d.2.1 d.2.2:=by kernel_rfl
abbrev A7:Prop:=OkC Tryz.prog 23 UJ
theorem CV (h:∀ (hk:Int) (lw:List Int) (hd:Int) (rows:List Int) (ds:List (Int×Int×Int×Int×Bool)) (n:Int),(lw.length<=110/\rows.length<=110/\ds.length<=1000)->Vx hk lw hd rows ds n):OkC Tryz.prog 23 UJ :=
 QB Z0p mixed (C:=Hr) (V:=λ(d:(Int×List Int×Int×List Int)×(List (Int×Int×Int×Int×Bool))×Int)=>Vx d.1.1 d.1.2.1 d.1.2.2.1 d.1.2.2.2 d.2.1 d.2.2) ⟨(.cons LA (.cons GF .nil)),XsOk.nil,ItsOk.nil,YlOk.nil,IysOk.nil,XfOk.nil⟩ (AK) λd hp=>h d.1.1 d.1.2.1 d.1.2.2.1 d.1.2.2.2 d.2.1 d.2.2 hp
theorem HP:A7:=CV λhk lw hd rows ds n h=>by
 unfold Vx;(try delta lI gD sT I64 Q2 pj8 pj4);simp only[bne_iff_ne,bne_eq_false_iff_eq,ne_eq,Bool.not_not,<-nI,List.any_cons,List.any_nil,xX,x9,List.length_nil];refine⟨by omega,λh1=>?_,λh1=>⟨by omega,λh2=>?_,λh2=>?_⟩⟩
 .have:Qr hk lw hd rows ds n=W4 hk lw hd rows ds:=by unfold Qr;rw[z7 h1]
  rw[this];and_intros<;>first|rfl|trivial
 .have:Qr hk lw hd rows ds n=3:=by unfold Qr;rw[z6 (by omega),z6 (by simpa using h2)]
  rw[this];and_intros<;>first|rfl|trivial
 .have:Qr hk lw hd rows ds n=0:=by unfold Qr;rw[z6 (by omega),z7 (by simpa using h2)]
  rw[this];and_intros<;>first|rfl|trivial
def SL:AL (Bool):=(.one (.k .bo))
def Fk (d:Bool):Prop:=True
def PG (d:Bool):SV:=.val (.i .u8) (BZ d)
def PS (d:Bool):List OB:=[]
def Pr:CSp:=XU SL Fk PG PS
def NK (x:Bool):Prop :=
 (x=true ->
  ((120:Int)=(BZ x)/\(True))) /\
 (x=false ->
  ((46:Int)=(BZ x)/\(True)))
def Ri:Cx:=⟨[],[],4,[],0,[],[],[],[],false,[],[],[],[]⟩
def FH (x:Bool):List (Nat×LoopAnn):=[]
theorem Ip (d:Bool):gwp (Ri) (FH d) c89 0 (YI [.tmp 2] (PG d) (PS d)) (Qv 4 (AL.can SL d))=NK d:=by kernel_rfl
abbrev I3:Prop:=OkC Tryz.prog 89 Pr
theorem FP (h:∀ (x:Bool),(True)->NK x):OkC Tryz.prog 89 Pr :=
 QB Z0f mixed (C:=Ri) (V:=λ(d:Bool)=>NK d) ⟨.nil,XsOk.nil,ItsOk.nil,YlOk.nil,IysOk.nil,XfOk.nil⟩ (Ip) λd hp=>h d hp
theorem I0:I3:=FP λx _=>by cases x<;>simp[NK,BZ]
def Kp:AL ((Int×List Int)×Int×Int):=(.cons (.agg (.cons (.k (.i .i64)) (.one (.k (.list (.i .i64)))))) (.cons (.k (.i .i64)) (.one (.k (.i .i64)))))
def Mu (d:(Int×List Int)×Int×Int):Prop:=0<=d.2.2/\d.2.2<d.1.2.length/\0<=d.2.1/\d.2.1<9223372036854775808/\∀ x∈d.1.2,0<=x/\x<=60
def YM (d:(Int×List Int)×Int×Int):SV:=.val .bo (d.2.1.toNat.testBit (d.1.2.getD d.2.2.toNat 0).toNat)
def YQ (d:(Int×List Int)×Int×Int):List OB:=[]
def Wv:CSp:=XU Kp Mu YM YQ
def JR (hk:Int) (lw:List Int) (row:Int) (w:Int):Prop :=
 (0<=w)/\(w<(List.length lw))/\(0<=(gD lw w 0))/\(((Q1 .and .i64 (Q9 .i64 row (gD lw w 0)) (1:Int))==(1:Int))=(row.toNat.testBit (lw.getD w.toNat 0).toNat)/\(True))
def Kz:Cx:=⟨[],[],17,[],0,[],[],[],[],false,[],[],[],[]⟩
def GS (hk:Int) (lw:List Int) (row:Int) (w:Int):List (Nat×LoopAnn):=[]
theorem Gb (d:(Int×List Int)×Int×Int):gwp (Kz) (GS d.1.1 d.1.2 d.2.1 d.2.2) c90 0 (YI [.tmp 6] (YM d) (YQ d)) (Qv 17 (AL.can Kp d))=JR d.1.1 d.1.2 d.2.1 d.2.2:=by kernel_rfl
abbrev G3:Prop:=OkC Tryz.prog 90 Wv
theorem GY (h:∀ (hk:Int) (lw:List Int) (row:Int) (w:Int),(0<=w/\w<lw.length/\0<=row/\row<9223372036854775808/\∀ x∈lw,0<=x/\x<=60)->JR hk lw row w):OkC Tryz.prog 90 Wv :=
 QB Z2j mixed (C:=Kz) (V:=λ(d:(Int×List Int)×Int×Int)=>JR d.1.1 d.1.2 d.2.1 d.2.2) ⟨.nil,XsOk.nil,ItsOk.nil,YlOk.nil,IysOk.nil,XfOk.nil⟩ (Gb) λd hp=>h d.1.1 d.1.2 d.2.1 d.2.2 hp
theorem Gs:G3:=GY λhk lw row w h=>by
 obtain⟨h1,h2,h3,h4,h5⟩:=h;obtain⟨w,rfl⟩:=zu h1;obtain⟨r,rfl⟩:=zu h3;have hw:w<lw.length:=by omega
 have hx:=h5 _ (zk hw);obtain⟨k,hk⟩:=zu hx.1;unfold JR;(try delta lI gD sT I64 Q2 pj8 pj4);simp only[and_true,zg,Int.ofNat_lt,Qj hw,hk];refine⟨by omega,by omega,by omega,?_⟩;exact Q7w (by omega) (by omega)
def XQ:Cx:=⟨[],[],20,[],0,[(119,Q8w)],[],[],[],false,[],[],[],[]⟩
def Js:XSp:=AX XQ (λ_=>[]) Z47 [] 20
theorem Xx:XOk Tryz.prog 113 Js:=Wh Q6j mixed (C:=XQ) ⟨.nil,(XsOk.cons (O7 FO) XsOk.nil),ItsOk.nil,YlOk.nil,IysOk.nil,XfOk.nil⟩ _
def XM:Cx:=⟨[(5,(.i .u8))],[],17,[],0,[(113,Js)],[],[],[],false,[],[],[],[]⟩
def XW:XSp:=AX XM (λ_=>[]) c88 [.tmp 4] 17
theorem KS:XOk Tryz.prog 88 XW:=Wh Z1b mixed (C:=XM) ⟨.nil,(XsOk.cons Xx XsOk.nil),ItsOk.nil,YlOk.nil,IysOk.nil,XfOk.nil⟩ _
def WM:Cx:=⟨[],[],14,[],0,[],[],[],[],false,[],[],[],[]⟩
def Y5:XSp:=AX WM (λ_=>[]) c91 [.tmp 2] 14
theorem Uh:XOk Tryz.prog 91 Y5:=Wh Q9y mixed (C:=WM) ⟨.nil,XsOk.nil,ItsOk.nil,YlOk.nil,IysOk.nil,XfOk.nil⟩ _
def U8:AL ((Int×List Int)×Int):=(.cons (.agg (.cons (.k (.i .i64)) (.one (.k (.list (.i .i64)))))) (.one (.k (.i .i64))))
def Dk (d:(Int×List Int)×Int):Prop:=d.1.2.length<=110/\0<=d.2/\d.2<9223372036854775808/\∀ x∈d.1.2,0<=x/\x<=60
def Vd (d:(Int×List Int)×Int):SV:=.val .st (Z6 d.1.2 d.2)
def Va (d:(Int×List Int)×Int):List OB:=[]
def Yx:CSp:=XU U8 Dk Vd Va
def Xt (hk:Int) (lw:List Int) (row:Int):Prop :=
 ∃ (e4:Unit) (d40:Bool×(List Int)×Int),((row=row/\True/\True/\(lI lw)=(lI lw)/\(0:Int)=d40.2.2/\True)/\((hk=hk/\lw=lw/\(([]:List SV)=[]))/\(d40.1=false/\True/\(([]:List SV)=[]))/\(d40.2.1=[]/\(List.isEmpty d40.2.1)=true)/\True)) /\
 LoopP (λ(d4:Bool×(List Int)×Int) (q4:(Bool×(List Int)×Int)->Prop) =>
  ((decide (d4.2.2<(lI lw)))=true ->
   (0<=d4.2.2/\d4.2.2<lw.length/\0<=row/\row<9223372036854775808/\∀ x∈lw,0<=x/\x<=60)/\(True)/\∀ w5:List Value,∀ w6:List Value,((!d4.1)=true ->
    w6=w6/\(((List.length d4.2.1)+(List.length [(BZ (row.toNat.testBit (lw.getD d4.2.2.toNat 0).toNat))]))*1<=70368744177664)/\w5=w5/\(I64 (d4.2.2+(1:Int)))/\(∃ d7:Bool×(List Int)×Int,((row=row/\True/\True/\(lI lw)=(lI lw)/\(d4.2.2+(1:Int))=d7.2.2/\True)/\((hk=hk/\lw=lw/\(([]:List SV)=[]))/\(d7.1=true/\True/\(([]:List SV)=[]))/\((d4.2.1++[(BZ (row.toNat.testBit (lw.getD d4.2.2.toNat 0).toNat))])=d7.2.1/\false=(List.isEmpty d7.2.1))/\True))/\q4 d7)) /\
   ((!d4.1)=false ->
    (d4.1=true)/\((!true)=true ->
     False) /\
    ((!true)=false ->
     w6=w6/\(((List.length d4.2.1)+(List.length [(BZ (row.toNat.testBit (lw.getD d4.2.2.toNat 0).toNat))]))*1<=70368744177664)/\w5=w5/\(I64 (d4.2.2+(1:Int)))/\(∃ d8:Bool×(List Int)×Int,((row=row/\True/\True/\(lI lw)=(lI lw)/\(d4.2.2+(1:Int))=d8.2.2/\True)/\((hk=hk/\lw=lw/\(([]:List SV)=[]))/\(d4.1=d8.1/\True/\(([]:List SV)=[]))/\((d4.2.1++[(BZ (row.toNat.testBit (lw.getD d4.2.2.toNat 0).toNat))])=d8.2.1/\false=(List.isEmpty d8.2.1))/\True))/\q4 d8)))) /\
  ((decide (d4.2.2<(lI lw)))=false ->
   ∀ w9:List Value,((List.isEmpty d4.2.1)=false->d4.2.1≠[])/\((lI d4.2.1)=(List.length d4.2.1))/\((List.length d4.2.1)<=4611686018427387904)/\w9=w9/\((U4 d4.2.1)=(Z6 lw row)/\(True)))) d40
def VR:Cx:=⟨[(5,(.i .u8))],[(90,Wv),(89,Pr)],22,[],0,[(88,XW),(113,Js),(119,Q8w),(91,Y5)],[],[],[],false,[],[],[],[]⟩
def BE (hk:Int) (lw:List Int) (row:Int):List (Nat×LoopAnn):=[(0,⟨Unit,Bool×(List Int)×Int,[1,2,5,10,11],λe x=>[.val (.i .i64) row,.box 2 0,.box 5 0,.val (.i .i64) (((List.length lw):Nat):Int),.val (.i .i64) x.2.2],λe x=>[(2,.slot 2,.cells [.val (.i .i64) hk,.val (.list (.i .i64)) lw] (some 73)),(5,.slot 5,.cells [.dd 5 (.obx x.1),.lst 2000014] (some 158)),(2000014,.cell 5 1,.lst 5 (.i .u8) x.2.1 (List.isEmpty x.2.1))]⟩)]
theorem Bo (d:(Int×List Int)×Int):gwp (VR) (BE d.1.1 d.1.2 d.2) c57 0 (YI [.tmp 4] (Vd d) (Va d)) (Qv 22 (AL.can U8 d))=Xt d.1.1 d.1.2 d.2:=by kernel_rfl
abbrev BY:Prop:=OkC Tryz.prog 57 Yx
theorem BG (h:∀ (hk:Int) (lw:List Int) (row:Int),(lw.length<=110/\0<=row/\row<9223372036854775808/\∀ x∈lw,0<=x/\x<=60)->Xt hk lw row):OkC Tryz.prog 57 Yx :=
 QB Z2h mixed (C:=VR) (V:=λ(d:(Int×List Int)×Int)=>Xt d.1.1 d.1.2 d.2) ⟨(.cons Gs (.cons I0 .nil)),(XsOk.cons KS (XsOk.cons Xx (XsOk.cons (O7 FO) (XsOk.cons Uh XsOk.nil)))),ItsOk.nil,YlOk.nil,IysOk.nil,XfOk.nil⟩ (Bo) λd hp=>h d.1.1 d.1.2 d.2 hp
theorem Q0t (lw:List Int) (row:Int):U4 (lw.map λk=>BZ (row.toNat.testBit k.toNat))=Z6 lw row:=by simp only[U4,Z6,wg];refine zZ λk _=>?_;simp only[Function.comp,BZ];split<;>rfl
theorem Bs:BY:=BG λhk lw row h=>by
 obtain⟨h1,h2,h3,h4⟩:=h;unfold Xt;(try delta lI gD sT I64 Q2 pj8 pj4);simp only[true_and,and_true,exists_const,zf,zy,ne_eq,Bool.not_eq_true',xl,QD];refine⟨(false,[],0),⟨rfl,rfl,rfl,rfl⟩,?_⟩;refine⟨λd=>∃ i:Nat,i<=lw.length/\d.2.2=i/\d.2.1=(lw.take i).map λk=>BZ (row.toNat.testBit k.toNat),λd=>lw.length-d.2.2.toNat,⟨0,Nat.zero_le _,rfl,by simp⟩,?_⟩;rintro⟨c,xs,_⟩ ⟨i,hi,rfl,bc⟩;dsimp only at bc |-;have dH:xs.length=i:=by rw[bc];simp;omega
 refine⟨λal=>?_,λbI=>?_⟩
 .have al:i<lw.length:=by omega
  have hn:xs++[BZ (row.toNat.testBit lw[i].toNat)]=(lw.take (i+1)).map λk=>BZ (row.toNat.testBit k.toNat):=by rw[bc,ZI al,xA];rfl
  simp only[zg,Qj al,zT];refine⟨⟨by omega,by omega,h2,h3,h4⟩,λ_ w6=>⟨λhc=>?_,λhc=>?_⟩⟩
  .exact⟨by omega,by omega,(true,xs++[BZ (row.toNat.testBit lw[i].toNat)],(i:Int)+1),⟨rfl,rfl,rfl,by simp⟩,⟨i+1,by omega,by simp,hn⟩,by dsimp only;omega⟩
  .refine⟨by simpa using hc,?_⟩;refine⟨λh=>by simp at h,λ_=>?_⟩;exact⟨by omega,by omega,(c,xs++[BZ (row.toNat.testBit lw[i].toNat)],(i:Int)+1),⟨rfl,rfl,rfl,by simp⟩,⟨i+1,by omega,by simp,hn⟩,by dsimp only;omega⟩
 .have:i=lw.length:=by omega
  subst this;rw[List.take_length] at bc;refineλ_=>⟨?_,by omega,?_⟩
  .intro aK h0;rw[h0] at aK;simp at aK
  .rw[bc];exact Q0t lw row
def T4:AL ((Int×List Int)×Int×List Int):=(.cons (.agg (.cons (.k (.i .i64)) (.one (.k (.list (.i .i64)))))) (.one (.agg (.cons (.k (.i .i64)) (.one (.k (.list (.i .i64))))))))
def AE (d:(Int×List Int)×Int×List Int):Prop:=d.1.2.length<=110/\d.2.2.length<=110
def Hu (d:(Int×List Int)×Int×List Int):SV:=.tup [.lst 0,.val (.i .i64) (Qb d.1.1 d.1.2 d.2.1 d.2.2)]
def HF (d:(Int×List Int)×Int×List Int):List OB:=[.lst 9 .st (Zz d.1.1 d.1.2 d.2.1 d.2.2) ((Zz d.1.1 d.1.2 d.2.1 d.2.2).isEmpty)]
def Ma:CSp:=XU T4 AE Hu HF
def UE (hk:Int) (lw:List Int) (hd:Int) (rows:List Int):Prop :=
 (lw.length<=1000000)/\(((Zp hk lw) != (0:Int))=true ->
  ((True/\(Zp hk lw)=Qb hk lw hd rows/\(([]:List SV)=[]))/\(((Zz hk lw hd rows)=[]/\(Zz hk lw hd rows).isEmpty=true)/\True))) /\
 (((Zp hk lw) != (0:Int))=false ->
  (rows.length<=1000000)/\(((Qe hd rows) != (0:Int))=true ->
   ((True/\(Qe hd rows)=Qb hk lw hd rows/\(([]:List SV)=[]))/\(((Zz hk lw hd rows)=[]/\(Zz hk lw hd rows).isEmpty=true)/\True))) /\
  (((Qe hd rows) != (0:Int))=false ->
   ((hd != hk)=true ->
    ((True/\(4:Int)=Qb hk lw hd rows/\(([]:List SV)=[]))/\(((Zz hk lw hd rows)=[]/\(Zz hk lw hd rows).isEmpty=true)/\True))) /\
   ((hd != hk)=false ->
    ∃ (e4:Unit) (d40:(List (List UInt8))×Int),((True/\True/\rows=rows/\(lI rows)=(lI rows)/\(0:Int)=d40.2/\True)/\((hk=hk/\lw=lw/\(([]:List SV)=[]))/\(d40.1=[]/\(List.isEmpty d40.1)=true)/\True)) /\
    LoopP (λ(d4:(List (List UInt8))×Int) (q4:((List (List UInt8))×Int)->Prop) =>
     ((decide (d4.2<(lI rows)))=true ->
      (0<=d4.2)/\(d4.2<(List.length rows))/\(lw.length<=110/\0<=(gD rows d4.2 0)/\(gD rows d4.2 0)<9223372036854775808/\∀ x∈lw,0<=x/\x<=60)/\(((List.length d4.1)+(List.length [(Z6 lw (gD rows d4.2 0))]))*16<=70368744177664)/\(I64 (d4.2+(1:Int)))/\(∃ d5:(List (List UInt8))×Int,((True/\True/\rows=rows/\(lI rows)=(lI rows)/\(d4.2+(1:Int))=d5.2/\True)/\((hk=hk/\lw=lw/\(([]:List SV)=[]))/\((d4.1++[(Z6 lw (gD rows d4.2 0))])=d5.1/\false=(List.isEmpty d5.1))/\True))/\q4 d5)) /\
     ((decide (d4.2<(lI rows)))=false ->
      ((True/\(0:Int)=Qb hk lw hd rows/\(([]:List SV)=[]))/\((d4.1=(Zz hk lw hd rows)/\(List.isEmpty d4.1)=(Zz hk lw hd rows).isEmpty)/\True)))) d40)))
def PO:Cx:=⟨[(9,.st)],[(49,U6),(35,Yl),(57,Yx)],43,[],0,[],[],[],[],false,[],[],[],[]⟩
def F8 (hk:Int) (lw:List Int) (hd:Int) (rows:List Int):List (Nat×LoopAnn):=[(1,⟨Unit,(List (List UInt8))×Int,[2,4,28,29,30],λe x=>[.box 2 0,.lst 40,.val (.list (.i .i64)) rows,.val (.i .i64) (((List.length rows):Nat):Int),.val (.i .i64) x.2],λe x=>[(2,.slot 2,.cells [.val (.i .i64) hk,.val (.list (.i .i64)) lw] (some 29)),(40,.slot 4,.lst 9 .st x.1 (List.isEmpty x.1))]⟩)]
theorem EP (d:(Int×List Int)×Int×List Int):gwp (PO) (F8 d.1.1 d.1.2 d.2.1 d.2.2) c31 0 (YI [.tmp 4,.tmp 5] (Hu d) (HF d)) (Qv 43 (AL.can T4 d))=UE d.1.1 d.1.2 d.2.1 d.2.2:=by kernel_rfl
abbrev EK:Prop:=OkC Tryz.prog 31 Ma
theorem Fp (h:∀ (hk:Int) (lw:List Int) (hd:Int) (rows:List Int),(lw.length<=110/\rows.length<=110)->UE hk lw hd rows):OkC Tryz.prog 31 Ma :=
 QB Z1w mixed (C:=PO) (V:=λ(d:(Int×List Int)×Int×List Int)=>UE d.1.1 d.1.2 d.2.1 d.2.2) ⟨(.cons G6 (.cons UU (.cons Bs .nil))),XsOk.nil,ItsOk.nil,YlOk.nil,IysOk.nil,XfOk.nil⟩ (EP) λd hp=>h d.1.1 d.1.2 d.2.1 d.2.2 hp
theorem NM {hd:Int}{rows:List Int}(h:Qe hd rows=0):1<=hd/\hd<=24/\rows.length<=60/\rows.length≠0/\∀ x∈rows,0<=x/\x<2 ^ hd.toNat:=by
 unfold Qe at h;split at h
 .cases h
 .rename_i h1;split at h
  .cases h
  .rename_i h2;split at h
   .cases h
   .rename_i h3;split at h
    .cases h
    .rename_i h4;have h1:1<=hd/\hd<=24:=by simpa [inI] using h1
     refine⟨h1.1,h1.2,by omega,h3,λx hx=>?_⟩;have h5:∀ x∈rows,inI x 0 (2 ^ hd.toNat-1)=true:=by simpa using h4
     have:=h5 x hx;simp only[inI,z1,zf] at this;omega
theorem PT:EK:=Fp λhk lw hd rows h=>by
 obtain⟨h1,h2⟩:=h;unfold UE;(try delta lI gD sT I64 Q2 pj8 pj4);simp only[true_and,and_true,exists_const,zf,zy,bne_iff_ne,ne_eq,bne_eq_false_iff_eq,QD];refine⟨by omega,λhe=>?_,λhe=>⟨by omega,λhp=>?_,λhp=>⟨λhh=>?_,λhh=>?_⟩⟩⟩
 .have e:Qb hk lw hd rows=Zp hk lw:=by simp[Qb,he]
  have e2:Zz hk lw hd rows=[]:=by simp[Zz,e,he]
  rw[e,e2];exact⟨rfl,rfl,rfl⟩
 .have e:Qb hk lw hd rows=Qe hd rows:=by simp[Qb,he,hp]
  have e2:Zz hk lw hd rows=[]:=by simp[Zz,e,hp]
  rw[e,e2];exact⟨rfl,rfl,rfl⟩
 .have e:Qb hk lw hd rows=4:=by simp[Qb,he,hp,hh]
  have e2:Zz hk lw hd rows=[]:=by simp[Zz,e]
  rw[e,e2];exact⟨rfl,rfl,rfl⟩
 have e:Qb hk lw hd rows=0:=by unfold Qb;rw[z6 (by omega),z6 (by omega),z6 (by omega)]
 have e2:Zz hk lw hd rows=rows.map (Z6 lw):=by simp[Zz,e]
 obtain⟨t1,t2,t3,t4,t5⟩:=TU he;obtain⟨p1,p2,p3,p4,p5⟩:=NM hp;have gS:=Ng p1 p2;rw[e,e2];refine⟨([],0),⟨rfl,rfl,rfl⟩,?_⟩;refine LoopP.count2 rows.length (λk xs=>xs=(rows.take k).map (Z6 lw)) (by simp) λk xs hk hJ q hq=>?_;have dH:xs.length=k:=by rw[hJ];simp;omega
 dsimp only;refine⟨λal=>?_,λbI=>?_⟩
 .have al:k<rows.length:=by omega
  have hr:=p5 _ (zk al);simp only[zg,Qj al,zT];refine⟨by omega,by omega,⟨h1,hr.1,by omega,λx hx=>by have:=t5 x hx;omega⟩,by omega,by omega,(xs++[Z6 lw rows[k]],(k:Int)+1),⟨rfl,rfl,by simp⟩,hq _ al ?_⟩;rw[ZI al,xA,<-hJ];rfl
 .have:k=rows.length:=by omega
  subst this;rw[List.take_length] at hJ;rw[hJ];exact⟨rfl,rfl,rfl⟩
def Z18:XSp:=λ_ _ _ _=>False
theorem Q5v {P:Program}{f:Nat}:XOk P f Z18:=λ_ _ _ _ _ _ _ _ _ _ _ _ _ _ hx _=>hx.elim
theorem Z6p {a b:Nat}(ha:a<2 ^ 62) (hb:b<2 ^ 62):Q1 .xor .i64 (a:Int) (b:Int)=((a ^^^ b:Nat):Int):=by
 have e:(BitVec.ofInt 64 ((a:Nat):Int) ^^^ BitVec.ofInt 64 ((b:Nat):Int)).toNat=a ^^^ b:=by rw[BitVec.toNat_xor,BitVec.toNat_ofInt,BitVec.toNat_ofInt];congr 1<;>omega
 have al:a ^^^ b<2 ^ 62:=Nat.xor_lt_two_pow ha hb;show IntKind.wrap .i64 ((BitVec.ofInt 64 ((a:Nat):Int) ^^^ BitVec.ofInt 64 ((b:Nat):Int)).toNat:Int)=_;rw[e];generalize a ^^^ b=c at *
 simp[IntKind.wrap,IntKind.bits,IntKind.signed];omega
theorem Z3n {a b:Nat}(ha:a<2 ^ 62) (hb:b<2 ^ 62):Q1 .or .i64 (a:Int) (b:Int)=((a ||| b:Nat):Int):=by
 have e:(BitVec.ofInt 64 ((a:Nat):Int) ||| BitVec.ofInt 64 ((b:Nat):Int)).toNat=a ||| b:=by rw[BitVec.toNat_or,BitVec.toNat_ofInt,BitVec.toNat_ofInt];congr 1<;>omega
 have al:a ||| b<2 ^ 62:=Nat.or_lt_two_pow ha hb
 show IntKind.wrap .i64 ((BitVec.ofInt 64 ((a:Nat):Int) ||| BitVec.ofInt 64 ((b:Nat):Int)).toNat:Int)=_;rw[e];generalize a ||| b=c at *
 simp[IntKind.wrap,IntKind.bits,IntKind.signed];omega
theorem Z5s {a b:Nat}(ha:a<2 ^ 62) (hb:b<2 ^ 62):Q1 .and .i64 (a:Int) (b:Int)=((a &&& b:Nat):Int):=by
 have e:(BitVec.ofInt 64 ((a:Nat):Int) &&& BitVec.ofInt 64 ((b:Nat):Int)).toNat=a &&& b:=by rw[BitVec.toNat_and,BitVec.toNat_ofInt,BitVec.toNat_ofInt];congr 1<;>omega
 have al:a &&& b<=a:=Nat.and_le_left;show IntKind.wrap .i64 ((BitVec.ofInt 64 ((a:Nat):Int) &&& BitVec.ofInt 64 ((b:Nat):Int)).toNat:Int)=_;rw[e];generalize a &&& b=c at *
 simp[IntKind.wrap,IntKind.bits,IntKind.signed];omega
theorem Z5o {a:Nat}{h:Int}(h0:0<=h) (h1:h<=62):WX .i64 (a:Int) h=((a*2 ^ h.toNat:Nat):Int):=by unfold WX;rw[show Nat.min h.toNat (IntKind.bits .i64)=h.toNat from xB (show h.toNat<=64 by omega)];push_cast;rfl
theorem Q57 {h:Int}(h0:0<=h) (h1:h<=62):WX .i64 1 h=((2 ^ h.toNat:Nat):Int):=by have:=Z5o (a:=1) h0 h1;rw[xp] at this;exact this
theorem Z6o {x i:Nat}(hi:i<=64):Q9 .i64 (x:Int) (i:Int)=((x >>> i:Nat):Int):=by have:Nat.min i 64=i:=xB hi;simp only[Q9,zg,IntKind.bits,this];rw[zE,Int.fdiv_eq_ediv_of_nonneg _ (Int.le_of_lt (Int.pow_pos (by omega)))];norm_cast
theorem Q9c {h:Nat}(h1:h<=24):2 ^ h<=2 ^ 24:=Nat.pow_le_pow_right (by omega) h1
theorem Q28 {row r h:Nat}(cK:row<2 ^ h) (hh:h<=24) (hr:r<2 ^ 24):Q1 .or .i64 (WX .i64 (row:Int) 1) (Q1 .and .i64 (Q9 .i64 (r:Int) (h:Int)) 1)=((row*2+(if r.testBit h then 1 else 0):Nat):Int)/\InK .i64 (WX .i64 (row:Int) 1):=by
 have e1:WX .i64 (row:Int) 1=((row*2:Nat):Int):=by have:=Z5o (a:=row) (h:=1) (by omega) (by omega);simpa using this
 have hp:=Q9c hh;have hs:r >>> h<=r:=by rw[zE];exact Nat.div_le_self _ _
 rw[e1,Z6o (by omega),show (1:Int)=((1:Nat):Int) from rfl,Z5s (by omega) (by omega)];have eb:r >>> h &&& 1=if r.testBit h then 1 else 0:=by rw[Nat.testBit,Nat.and_comm 1,Nat.and_one_is_mod];rcases Nat.mod_two_eq_zero_or_one (r >>> h) with e|e<;>rw[e]<;>rfl
 rw[eb];have hb:(if r.testBit h then 1 else 0)<2 ^ 1:=by split<;>omega
 generalize (if r.testBit h then 1 else 0)=b at *
 rw[Z3n (by omega) (by omega)];refine⟨?_,by rw[QD];omega⟩;congr 1;have:=Nat.two_pow_add_eq_or_of_lt hb row;rw[we row 2];simp at this;omega
theorem FU (n r:Nat):∀ h,Q8c n r h<2 ^ h
 |0=>by simp[Q8c]
 |h+1=>by have:=FU n r h;rw[Q8c,Nat.pow_succ];split<;>omega
def Q12 (h:Nat) (up:Bool) (r:Int):Int:=((if up then r.toNat ||| 2 ^ h else (r.toNat ||| 2 ^ h) ^^^ 2 ^ h:Nat):Int)
theorem Z0m {r h:Int}(hr:0<=r/\r<2 ^ 24) (h0:0<=h) (h1:h<24):Q1 .or .i64 r (WX .i64 1 h)=((r.toNat ||| 2 ^ h.toNat:Nat):Int):=by obtain⟨n,rfl⟩:=zu hr.1;have:=Q9c (h:=h.toNat) (by omega);rw[Q57 h0 (by omega),Z3n (by omega) (by omega)];rfl
theorem FL {r h:Int}(hr:0<=r/\r<2 ^ 24) (h0:0<=h) (h1:h<24):Q1 .xor .i64 r (WX .i64 1 h)=((r.toNat ^^^ 2 ^ h.toNat:Nat):Int):=by obtain⟨n,rfl⟩:=zu hr.1;have:=Q9c (h:=h.toNat) (by omega);rw[Q57 h0 (by omega),Z6p (by omega) (by omega)];rfl
theorem Ik {h:Int}(h0:0<=h) (h1:h<24):InK .i64 (WX .i64 1 h):=by
 have:=Q9c (h:=h.toNat) (by omega);rw[Q57 h0 (by omega),QD];generalize 2 ^ h.toNat=y at *
 omega
theorem Db (n:Nat):(2:Int) ^ n=((2 ^ n:Nat):Int):=by push_cast;rfl
theorem Q9m {H:Nat}{h:Nat}(hH:h<H) {up:Bool}{r:Int}(hr:0<=r/\r<2 ^ H):0<=Q12 h up r/\Q12 h up r<2 ^ H:=by
 have hp:2 ^ h<2 ^ H:=Nat.pow_lt_pow_right (by omega) hH;have hn:r.toNat<2 ^ H:=by have:=Db H;omega
 have h1:r.toNat ||| 2 ^ h<2 ^ H:=Nat.or_lt_two_pow hn hp
 have h2:(r.toNat ||| 2 ^ h) ^^^ 2 ^ h<2 ^ H:=Nat.xor_lt_two_pow h1 hp;unfold Q12;have:=Db H;cases up<;>simp only[zr,if_false,zt]<;>omega
theorem LZ {hd:Int}{rows lw:List Int}{d:Dmg}(h:Ho hd rows lw d=true):1<=d.1/\d.1<=5/\0<=d.2.1/\d.2.1<rows.length/\0<=d.2.2.1/\d.2.2.1<hd/\0<=d.2.2.2.1/\d.2.2.2.1<lw.length:=by unfold Ho inI at h;simp only[z1,zf] at h;omega
theorem Dj {hk:Int}{lw:List Int}{hd:Int}{rows:List Int}(h:Qb hk lw hd rows=0):Zp hk lw=0/\hd=hk/\1<=hd/\hd<=24/\1<=rows.length/\rows.length<=60/\∀ x∈rows,0<=x/\x<2 ^ hd.toNat:=by
 unfold Qb at h;split at h
 .exact(absurd h ‹_›)
 .rename_i h1;split at h
  .exact(absurd h ‹_›)
  .rename_i h2;split at h
   .cases h
   .have h2:Qe hd rows=0:=by omega
    unfold Qe at h2;split at h2
    .cases h2
    .rename_i h3;split at h2
     .cases h2
     .split at h2
      .cases h2
      .split at h2
       .cases h2
       .rename_i h4;have h3:inI hd 1 24=true:=by simpa using h3
        unfold inI at h3;simp only[z1,zf] at h3;refine⟨by omega,by omega,h3.1,h3.2,by omega,by omega,λx hx=>?_⟩;have:inI x 0 (2 ^ hd.toNat-1)=true:=by
         have h5:(rows.any λx=>!inI x 0 (2 ^ hd.toNat-1))=false:=by simpa using h4
         have:=xi.1 h5 x hx;simpa using this
        unfold inI at this;simp only[z1,zf] at this;omega
theorem Q6m {hk:Int}{lw:List Int}{hd:Int}{rows:List Int}(h0:Zp hk lw=0) (h1:hd=hk) (h2:1<=hd) (h3:hd<=24) (h4:1<=rows.length) (h5:rows.length<=60) (h6:∀ x∈rows,0<=x/\x<2 ^ hd.toNat):Qb hk lw hd rows=0:=by
 have e1:inI hd 1 24=true:=by simp[inI];omega
 have e2:(rows.any λx=>!inI x 0 (2 ^ hd.toNat-1))=false:=by
  rw[xi];intro x hx;have:=h6 x hx;have e3:inI x 0 (2 ^ hd.toNat-1)=true:=by unfold inI;simp only[z1,zf];omega
  rw[e3];simp
 have e4:Qe hd rows=0:=by unfold Qe;rw[z6 (by rw[e1];simp),z6 (by omega),z6 (by omega),z6 (by rw[e2];simp)]
 unfold Qb;rw[z6 (by omega),z6 (by omega),z6 (by omega)]
theorem Q2w {hk:Int}{lw:List Int}{hd:Int}{rows:List Int}{d:Dmg}(h:Qb hk lw hd rows=0) (lB:Ho hd rows lw d=true):Qb hk lw hd (Hc hd rows d)=0/\(Hc hd rows d).length=rows.length:=by
 obtain⟨h0,h1,h2,h3,h4,h5,h6⟩:=Dj h;obtain⟨d1,d2,d3,d4,d5,d6,d7,d8⟩:=LZ lB;have gS:=Db hd.toNat;have hg:∀ i,i<rows.length->0<=rows.getD i 0/\rows.getD i 0<2 ^ hd.toNat:=λi hi=>by rw[Qj hi];exact h6 _ (zk hi)
 have key:(Hc hd rows d).length=rows.length/\∀ x∈Hc hd rows d,0<=x/\x<2 ^ hd.toNat:=by
  have aW:∀ (l:List Int) (i:Nat) (v:Int),(∀ x∈l,0<=x/\x<2 ^ hd.toNat)->(0<=v/\v<2 ^ hd.toNat)->∀ x∈l.set i v,0<=x/\x<2 ^ hd.toNat:=λl i v hl hv x hx=>by
   rcases List.mem_or_eq_of_mem_set hx with h|h
   .exact hl x h
   .rw[h];exact hv
  unfold Hc;split
  .refine⟨by simp,aW _ _ _ h6 ?_⟩;have hp:2 ^ d.2.2.1.toNat<2 ^ hd.toNat:=Nat.pow_lt_pow_right (by omega) (by omega);have h7:=hg d.2.1.toNat (by omega);have:=Nat.xor_lt_two_pow (x:=(rows.getD d.2.1.toNat 0).toNat) (y:=2 ^ d.2.2.1.toNat) (n:=hd.toNat) (by omega) hp;omega
  .split
   .refine⟨by simp,λx hx=>?_⟩;obtain⟨r,hr,rfl⟩:=zL.1 hx;exact Q9m (up:=d.2.2.2.2) (by omega) (h6 r hr)
   .split
    .refine⟨by simp,aW _ _ _ h6 ?_⟩;have:=FU hd.toNat (rows.getD d.2.1.toNat 0).toNat hd.toNat;omega
    .split
     .refine⟨by simp,aW _ _ _ (aW _ _ _ h6 (hg _ (xG _ (by omega)))) (hg _ (by omega))⟩
     .exact⟨rfl,h6⟩
 exact⟨Q6m h0 h1 h2 h3 (by omega) (by omega) key.2,key.1⟩
def T7 (d:Dmg):List (Int×Bool):=if d.1=5 then [(d.2.2.2.1,true)] else []
theorem RS (s:List UInt8):U4 (s.map λ(b:UInt8)=>((b.toNat:Nat):Int))=s:=by
 unfold U4;rw[wg];conv=>rhs;rw[<-List.map_id s]
 exact zZ λb _=>by simp[Function.comp]
theorem Q3n (s:List UInt8) (w:Nat):U4 ((s.map λ(b:UInt8)=>((b.toNat:Nat):Int)).set w 46)=s.set w 46:=by have:=RS s;unfold U4 at this |-;rw[List.map_set,this];rfl
def Pb {α:Type}(f:α->α) (l:List α) (n:Nat):List α:=(l.take n).map f++l.drop n
theorem RU {α:Type}(f:α->α) (l:List α):Pb f l 0=l:=by simp[Pb]
theorem A9 {α:Type}(f:α->α) (l:List α):Pb f l l.length=l.map f:=by simp[Pb]
theorem BR {α:Type}(f:α->α) (l:List α) (n:Nat):(Pb f l n).length=l.length:=by simp[Pb];omega
theorem Rv {α:Type}(f:α->α) (l:List α) (n:Nat) (d:α) (h:n<l.length):(Pb f l n).getD n d=l.getD n d:=by
 unfold Pb;have e:((l.take n).map f).length=n:=by simp;omega
 rw[ze,xc (by omega),e,xZ,ze,zR,zM]
theorem Ab {α:Type}(f:α->α) (l:List α) (n:Nat) (d:α) (h:n<l.length):(Pb f l n).set n (f (l.getD n d))=Pb f l (n+1):=by
 unfold Pb;have e:((l.take n).map f).length=n:=by simp;omega
 rw[List.set_append_right _ _ (by omega),e,xZ,ZI h,xA,xE h,List.set_cons_zero,Qj h];simp
def YF:AL (List Int):=(.one (.k (.list (.i .i64))))
def NG (d:List Int):Prop:=d≠[]/\d.length<=110
def Yf (d:List Int):SV:=.lst 0
def Ye (d:List Int):List OB:=[.lst 3 (.i .i64) d false]
def JE:CSp:=XU YF NG Yf Ye
def J6 (l:List Int):Prop :=
 (l≠[])/\(false=true ->
  (True/\((l=[]/\false=true)/\True))) /\
 (false=false ->
  (((List.length ([]:List Int))+(List.length l))*8<=70368744177664)/\(True/\(((([]:List Int)++l)=l/\((List.isEmpty l)&&false)=false)/\True)))
def Yv:Cx:=⟨[(3,(.i .i64))],[],8,[],0,[],[],[],[],false,[],[],[],[]⟩
def NV (l:List Int):List (Nat×LoopAnn):=[]
theorem NW (d:List Int):gwp (Yv) (NV d) c43 0 (YI [.tmp 2] (Yf d) (Ye d)) (Qv 8 (AL.can YF d))=J6 d:=by kernel_rfl
abbrev NI:Prop:=OkC Tryz.prog 43 JE
theorem NJ (h:∀ (l:List Int),(l≠[]/\l.length<=110)->J6 l):OkC Tryz.prog 43 JE :=
 QB Z2z mixed (C:=Yv) (V:=λ(d:List Int)=>J6 d) ⟨.nil,XsOk.nil,ItsOk.nil,YlOk.nil,IysOk.nil,XfOk.nil⟩ (NW) λd hp=>h d hp
theorem Yo:NI:=NJ λl h=>by simp[J6,h.1];omega
def Zg:AL (Int×Int×(((Int×Int×Int×Int×Bool)×(Int×Int×Int×Int×Bool)->Prop)×((Int×Int×Int×Int×Bool)×(Int×Int×Int×Int×Bool)->Int))):=(.cons (.k (.i .i64)) (.cons (.k (.i .i64)) (.one (.fn [(.pair (.i .i64) (.pair (.i .i64) (.pair (.i .i64) (.pair (.i .i64) .bo)))),(.pair (.i .i64) (.pair (.i .i64) (.pair (.i .i64) (.pair (.i .i64) .bo))))] (.i .i64)))))
def J_ (xs:List (Int×Int×Int×Int×Bool)) (nl:Bool) (d:Int×Int×(((Int×Int×Int×Int×Bool)×(Int×Int×Int×Int×Bool)->Prop)×((Int×Int×Int×Int×Bool)×(Int×Int×Int×Int×Bool)->Int))):Prop:=d.1=0/\d.2.1=xs.length/\xs.length<=1/\(∀ x∈xs,∀ y∈xs,d.2.2.1 (x,y))
def Za (xs:List (Int×Int×Int×Int×Bool)) (nl:Bool) (d:Int×Int×(((Int×Int×Int×Int×Bool)×(Int×Int×Int×Int×Bool)->Prop)×((Int×Int×Int×Int×Bool)×(Int×Int×Int×Int×Bool)->Int))):SV:=.tup []
def Z3 (xs:List (Int×Int×Int×Int×Bool)) (nl:Bool) (d:Int×Int×(((Int×Int×Int×Int×Bool)×(Int×Int×Int×Int×Bool)->Prop)×((Int×Int×Int×Int×Bool)×(Int×Int×Int×Int×Bool)->Int))):List (Int×Int×Int×Int×Bool):=xs
def Qz:XSp:=Oz (gap [] 3) (Q2y 37 (.pair (.i .i64) (.pair (.i .i64) (.pair (.i .i64) (.pair (.i .i64) .bo)))) Zg J_ Za Z3)
def Qm (xs:List (Int×Int×Int×Int×Bool)) (nl:Bool) (a:Int) (b:Int) (p:((Int×Int×Int×Int×Bool)×(Int×Int×Int×Int×Bool)->Prop)×((Int×Int×Int×Int×Bool)×(Int×Int×Int×Int×Bool)->Int)):Prop:=∀ vals:List Value,
 (I64 (a+(1:Int)))/\∃ (e2:Unit) (d20:(List (Int×Int×Int×Int×Bool))×Bool×Int),((True/\a=a/\b=b/\(SV.pf [(.pair (.i .i64) (.pair (.i .i64) (.pair (.i .i64) (.pair (.i .i64) .bo)))),(.pair (.i .i64) (.pair (.i .i64) (.pair (.i .i64) (.pair (.i .i64) .bo))))] (.i .i64) p.1 p.2=SV.pf [(.pair (.i .i64) (.pair (.i .i64) (.pair (.i .i64) (.pair (.i .i64) .bo)))),(.pair (.i .i64) (.pair (.i .i64) (.pair (.i .i64) (.pair (.i .i64) .bo))))] (.i .i64) p.1 p.2)/\(a+(1:Int))=d20.2.2/\True)/\((xs=d20.1/\nl=d20.2.1)/\(vals=vals/\(True/\(([]:List SV)=[])))/\True)) /\
 LoopP (λ(d2:(List (Int×Int×Int×Int×Bool))×Bool×Int) (q2:((List (Int×Int×Int×Int×Bool))×Bool×Int)->Prop) =>
  ((decide (d2.2.2<b))=true ->
   ∃ (e5:Bool×Int) (d50:(List (Int×Int×Int×Int×Bool))×Int),((True/\a=a/\b=b/\(SV.pf [(.pair (.i .i64) (.pair (.i .i64) (.pair (.i .i64) (.pair (.i .i64) .bo)))),(.pair (.i .i64) (.pair (.i .i64) (.pair (.i .i64) (.pair (.i .i64) .bo))))] (.i .i64) p.1 p.2=SV.pf [(.pair (.i .i64) (.pair (.i .i64) (.pair (.i .i64) (.pair (.i .i64) .bo)))),(.pair (.i .i64) (.pair (.i .i64) (.pair (.i .i64) (.pair (.i .i64) .bo))))] (.i .i64) p.1 p.2)/\d2.2.2=e5.2/\d2.2.2=d50.2/\True)/\((d2.1=d50.1/\d2.2.1=e5.1)/\(vals=vals/\(True/\(([]:List SV)=[])))/\True)) /\
   LoopP (λ(d5:(List (Int×Int×Int×Int×Bool))×Int) (q5:((List (Int×Int×Int×Int×Bool))×Int)->Prop) =>
    ((decide (d5.2 > a))=true->0<=d5.2)/\((decide (d5.2 > a))=true->d5.2<(List.length d5.1))/\((decide (d5.2 > a))=true->InK .i64 (d5.2-(1:Int)))/\((decide (d5.2 > a))=true->0<=(d5.2-(1:Int)))/\((decide (d5.2 > a))=true->(d5.2-(1:Int))<(List.length d5.1))/\((decide (d5.2 > a))=true->p.1 (((gD d5.1 d5.2 (0,(0,(0,(0,false))))).1,((gD d5.1 d5.2 (0,(0,(0,(0,false))))).2.1,((gD d5.1 d5.2 (0,(0,(0,(0,false))))).2.2.1,((gD d5.1 d5.2 (0,(0,(0,(0,false))))).2.2.2.1,(gD d5.1 d5.2 (0,(0,(0,(0,false))))).2.2.2.2)))),((gD d5.1 (d5.2-(1:Int)) (0,(0,(0,(0,false))))).1,((gD d5.1 (d5.2-(1:Int)) (0,(0,(0,(0,false))))).2.1,((gD d5.1 (d5.2-(1:Int)) (0,(0,(0,(0,false))))).2.2.1,((gD d5.1 (d5.2-(1:Int)) (0,(0,(0,(0,false))))).2.2.2.1,(gD d5.1 (d5.2-(1:Int)) (0,(0,(0,(0,false))))).2.2.2.2))))))/\(((decide (d5.2 > a))&&(decide ((p.2 (((gD d5.1 d5.2 (0,(0,(0,(0,false))))).1,((gD d5.1 d5.2 (0,(0,(0,(0,false))))).2.1,((gD d5.1 d5.2 (0,(0,(0,(0,false))))).2.2.1,((gD d5.1 d5.2 (0,(0,(0,(0,false))))).2.2.2.1,(gD d5.1 d5.2 (0,(0,(0,(0,false))))).2.2.2.2)))),((gD d5.1 (d5.2-(1:Int)) (0,(0,(0,(0,false))))).1,((gD d5.1 (d5.2-(1:Int)) (0,(0,(0,(0,false))))).2.1,((gD d5.1 (d5.2-(1:Int)) (0,(0,(0,(0,false))))).2.2.1,((gD d5.1 (d5.2-(1:Int)) (0,(0,(0,(0,false))))).2.2.2.1,(gD d5.1 (d5.2-(1:Int)) (0,(0,(0,(0,false))))).2.2.2.2))))))<(0:Int))))=true ->
     (I64 (d5.2-(1:Int)))/\(I64 (d5.2-(1:Int)))/\(0<=(d5.2-(1:Int)))/\((d5.2-(1:Int))<(List.length d5.1))/\(0<=d5.2)/\(d5.2<(List.length d5.1))/\(0<=d5.2)/\(d5.2<(List.length d5.1))/\(0<=(d5.2-(1:Int)))/\((d5.2-(1:Int))<(List.length (sT d5.1 d5.2 ((gD d5.1 (d5.2-(1:Int)) (0,(0,(0,(0,false))))).1,((gD d5.1 (d5.2-(1:Int)) (0,(0,(0,(0,false))))).2.1,((gD d5.1 (d5.2-(1:Int)) (0,(0,(0,(0,false))))).2.2.1,((gD d5.1 (d5.2-(1:Int)) (0,(0,(0,(0,false))))).2.2.2.1,(gD d5.1 (d5.2-(1:Int)) (0,(0,(0,(0,false))))).2.2.2.2)))))))/\(I64 (d5.2-(1:Int)))/\(∃ d6:(List (Int×Int×Int×Int×Bool))×Int,((True/\a=a/\b=b/\(SV.pf [(.pair (.i .i64) (.pair (.i .i64) (.pair (.i .i64) (.pair (.i .i64) .bo)))),(.pair (.i .i64) (.pair (.i .i64) (.pair (.i .i64) (.pair (.i .i64) .bo))))] (.i .i64) p.1 p.2=SV.pf [(.pair (.i .i64) (.pair (.i .i64) (.pair (.i .i64) (.pair (.i .i64) .bo)))),(.pair (.i .i64) (.pair (.i .i64) (.pair (.i .i64) (.pair (.i .i64) .bo))))] (.i .i64) p.1 p.2)/\e5.2=e5.2/\(d5.2-(1:Int))=d6.2/\True)/\(((sT (sT d5.1 d5.2 ((gD d5.1 (d5.2-(1:Int)) (0,(0,(0,(0,false))))).1,((gD d5.1 (d5.2-(1:Int)) (0,(0,(0,(0,false))))).2.1,((gD d5.1 (d5.2-(1:Int)) (0,(0,(0,(0,false))))).2.2.1,((gD d5.1 (d5.2-(1:Int)) (0,(0,(0,(0,false))))).2.2.2.1,(gD d5.1 (d5.2-(1:Int)) (0,(0,(0,(0,false))))).2.2.2.2))))) (d5.2-(1:Int)) ((gD d5.1 d5.2 (0,(0,(0,(0,false))))).1,((gD d5.1 d5.2 (0,(0,(0,(0,false))))).2.1,((gD d5.1 d5.2 (0,(0,(0,(0,false))))).2.2.1,((gD d5.1 d5.2 (0,(0,(0,(0,false))))).2.2.2.1,(gD d5.1 d5.2 (0,(0,(0,(0,false))))).2.2.2.2)))))=d6.1/\e5.1=e5.1)/\(vals=vals/\(True/\(([]:List SV)=[])))/\True))/\q5 d6)) /\
    (((decide (d5.2 > a))&&(decide ((p.2 (((gD d5.1 d5.2 (0,(0,(0,(0,false))))).1,((gD d5.1 d5.2 (0,(0,(0,(0,false))))).2.1,((gD d5.1 d5.2 (0,(0,(0,(0,false))))).2.2.1,((gD d5.1 d5.2 (0,(0,(0,(0,false))))).2.2.2.1,(gD d5.1 d5.2 (0,(0,(0,(0,false))))).2.2.2.2)))),((gD d5.1 (d5.2-(1:Int)) (0,(0,(0,(0,false))))).1,((gD d5.1 (d5.2-(1:Int)) (0,(0,(0,(0,false))))).2.1,((gD d5.1 (d5.2-(1:Int)) (0,(0,(0,(0,false))))).2.2.1,((gD d5.1 (d5.2-(1:Int)) (0,(0,(0,(0,false))))).2.2.2.1,(gD d5.1 (d5.2-(1:Int)) (0,(0,(0,(0,false))))).2.2.2.2))))))<(0:Int))))=false ->
     (I64 (e5.2+(1:Int)))/\(∃ d7:(List (Int×Int×Int×Int×Bool))×Bool×Int,((True/\a=a/\b=b/\(SV.pf [(.pair (.i .i64) (.pair (.i .i64) (.pair (.i .i64) (.pair (.i .i64) .bo)))),(.pair (.i .i64) (.pair (.i .i64) (.pair (.i .i64) (.pair (.i .i64) .bo))))] (.i .i64) p.1 p.2=SV.pf [(.pair (.i .i64) (.pair (.i .i64) (.pair (.i .i64) (.pair (.i .i64) .bo)))),(.pair (.i .i64) (.pair (.i .i64) (.pair (.i .i64) (.pair (.i .i64) .bo))))] (.i .i64) p.1 p.2)/\(e5.2+(1:Int))=d7.2.2/\True)/\((d5.1=d7.1/\e5.1=d7.2.1)/\(vals=vals/\(True/\(([]:List SV)=[])))/\True))/\q2 d7))) d50) /\
  ((decide (d2.2.2<b))=false ->
   (vals=vals/\(True/\(([]:List SV)=[]))/\((([]:List SV)=[]))/\(d2.1=xs/\d2.2.1=nl)))) d20
def Zf:Cx:=⟨[],[],53,[],0,[],[],[],[],false,[],[],[],[]⟩
def Ze (xs:List (Int×Int×Int×Int×Bool)) (nl:Bool) (a:Int) (b:Int) (p:((Int×Int×Int×Int×Bool)×(Int×Int×Int×Int×Bool)->Prop)×((Int×Int×Int×Int×Bool)×(Int×Int×Int×Int×Bool)->Int)) (vals:List Value):List (Nat×LoopAnn):=[(0,⟨Unit,(List (Int×Int×Int×Int×Bool))×Bool×Int,[0,1,2,3,8],λe x=>[.lst 0,.val (.i .i64) a,.val (.i .i64) b,.pf [(.pair (.i .i64) (.pair (.i .i64) (.pair (.i .i64) (.pair (.i .i64) .bo)))),(.pair (.i .i64) (.pair (.i .i64) (.pair (.i .i64) (.pair (.i .i64) .bo))))] (.i .i64) p.1 p.2,.val (.i .i64) x.2.2],λe x=>[(0,.slot 0,.lst 37 (.pair (.i .i64) (.pair (.i .i64) (.pair (.i .i64) (.pair (.i .i64) .bo)))) x.1 x.2.1),(4000000,.key 4000000,.stk [.lst 0] vals)]⟩),
 (2,⟨Bool×Int,(List (Int×Int×Int×Int×Bool))×Int,[0,1,2,3,8,9],λe x=>[.lst 0,.val (.i .i64) a,.val (.i .i64) b,.pf [(.pair (.i .i64) (.pair (.i .i64) (.pair (.i .i64) (.pair (.i .i64) .bo)))),(.pair (.i .i64) (.pair (.i .i64) (.pair (.i .i64) (.pair (.i .i64) .bo))))] (.i .i64) p.1 p.2,.val (.i .i64) e.2,.val (.i .i64) x.2],λe x=>[(0,.slot 0,.lst 37 (.pair (.i .i64) (.pair (.i .i64) (.pair (.i .i64) (.pair (.i .i64) .bo)))) x.1 e.1),(4000000,.key 4000000,.stk [.lst 0] vals)]⟩)]
theorem X8 (xs:List (Int×Int×Int×Int×Bool)) (nl:Bool) (d:Int×Int×(((Int×Int×Int×Int×Bool)×(Int×Int×Int×Int×Bool)->Prop)×((Int×Int×Int×Int×Bool)×(Int×Int×Int×Int×Bool)->Int))):(∀ vals,gwp Zf (Ze xs nl d.1 d.2.1 d.2.2 vals) c98 0 (Q3a vals [] (Za xs nl d) (.lst 37 (.pair (.i .i64) (.pair (.i .i64) (.pair (.i .i64) (.pair (.i .i64) .bo)))) (Z3 xs nl d) nl) (.lst 0)) (G5 53 (.lst 0) (.lst 37 (.pair (.i .i64) (.pair (.i .i64) (.pair (.i .i64) (.pair (.i .i64) .bo)))) xs nl) vals (AL.can Zg d)))=Qm xs nl d.1 d.2.1 d.2.2:=by kernel_rfl
abbrev Xa:Prop:=XOk Tryz.prog 98 Qz
theorem X9 (h:∀ (xs:List (Int×Int×Int×Int×Bool)) (nl:Bool) (a:Int) (b:Int) (p:((Int×Int×Int×Int×Bool)×(Int×Int×Int×Int×Bool)->Prop)×((Int×Int×Int×Int×Bool)×(Int×Int×Int×Int×Bool)->Int)),(a=0/\b=xs.length/\xs.length<=1/\(∀ x∈xs,∀ y∈xs,p.1 (x,y)))->Qm xs nl a b p):XOk Tryz.prog 98 Qz :=
 CX Z2i mixed (Co .nil 3) (C:=Zf) ⟨.nil,XsOk.nil,ItsOk.nil,YlOk.nil,IysOk.nil,XfOk.nil⟩ (L:=λxs nl (d:Int×Int×(((Int×Int×Int×Int×Bool)×(Int×Int×Int×Int×Bool)->Prop)×((Int×Int×Int×Int×Bool)×(Int×Int×Int×Int×Bool)->Int))) vals=>Ze xs nl d.1 d.2.1 d.2.2 vals) (V:=λxs nl (d:Int×Int×(((Int×Int×Int×Int×Bool)×(Int×Int×Int×Int×Bool)->Prop)×((Int×Int×Int×Int×Bool)×(Int×Int×Int×Int×Bool)->Int)))=>Qm xs nl d.1 d.2.1 d.2.2) X8 λxs nl d hp=>h xs nl d.1 d.2.1 d.2.2 hp
theorem X6:Xa:=X9 λxs nl a b p h=>by
 obtain⟨rfl,rfl,h3,h4⟩:=h;unfold Qm;(try delta lI gD sT I64 Q2 pj8 pj4);intro vals;refine⟨by rw[QD];omega,(),(xs,nl,0+1),(by and_intros<;>first|rfl|trivial|simp),?_⟩;refine⟨λd=>d=(xs,nl,0+1),λ_=>0,rfl,?_⟩;rintro _ rfl;refine⟨λc=>?_,λ_=>(by and_intros<;>first|rfl|trivial|simp)⟩;have c:(0+1:Int)<xs.length:=by simpa using c
 omega
def ZM:AL (Int×(((Int×Int×Int×Int×Bool)×(Int×Int×Int×Int×Bool)->Prop)×((Int×Int×Int×Int×Bool)×(Int×Int×Int×Int×Bool)->Int))):=(.cons (.k (.i .i64)) (.one (.fn [(.pair (.i .i64) (.pair (.i .i64) (.pair (.i .i64) (.pair (.i .i64) .bo)))),(.pair (.i .i64) (.pair (.i .i64) (.pair (.i .i64) (.pair (.i .i64) .bo))))] (.i .i64))))
def XS (xs:List (Int×Int×Int×Int×Bool)) (nl:Bool) (d:Int×(((Int×Int×Int×Int×Bool)×(Int×Int×Int×Int×Bool)->Prop)×((Int×Int×Int×Int×Bool)×(Int×Int×Int×Int×Bool)->Int))):Prop:=d.1=xs.length/\xs.length<=1/\(∀ x∈xs,∀ y∈xs,d.2.1 (x,y))
def Zx (xs:List (Int×Int×Int×Int×Bool)) (nl:Bool) (d:Int×(((Int×Int×Int×Int×Bool)×(Int×Int×Int×Int×Bool)->Prop)×((Int×Int×Int×Int×Bool)×(Int×Int×Int×Int×Bool)->Int))):SV:=.tup []
def Zq (xs:List (Int×Int×Int×Int×Bool)) (nl:Bool) (d:Int×(((Int×Int×Int×Int×Bool)×(Int×Int×Int×Int×Bool)->Prop)×((Int×Int×Int×Int×Bool)×(Int×Int×Int×Int×Bool)->Int))):List (Int×Int×Int×Int×Bool):=xs
def Z1:XSp:=Oz (gap [] 3) (Q2y 37 (.pair (.i .i64) (.pair (.i .i64) (.pair (.i .i64) (.pair (.i .i64) .bo)))) ZM XS Zx Zq)
def Qu (xs:List (Int×Int×Int×Int×Bool)) (nl:Bool) (n:Int) (p:((Int×Int×Int×Int×Bool)×(Int×Int×Int×Int×Bool)->Prop)×((Int×Int×Int×Int×Bool)×(Int×Int×Int×Int×Bool)->Int)):Prop:=∀ vals:List Value,
 ∃ (e3:Unit) (d30:Int×Int),((True/\n=n/\(SV.pf [(.pair (.i .i64) (.pair (.i .i64) (.pair (.i .i64) (.pair (.i .i64) .bo)))),(.pair (.i .i64) (.pair (.i .i64) (.pair (.i .i64) (.pair (.i .i64) .bo))))] (.i .i64) p.1 p.2=SV.pf [(.pair (.i .i64) (.pair (.i .i64) (.pair (.i .i64) (.pair (.i .i64) .bo)))),(.pair (.i .i64) (.pair (.i .i64) (.pair (.i .i64) (.pair (.i .i64) .bo))))] (.i .i64) p.1 p.2)/\(20:Int)=(20:Int)/\(0:Int)=d30.1/\(20:Int)=d30.2/\True)/\((xs=xs/\nl=nl)/\(vals=vals/\(True/\(([]:List SV)=[])))/\True)) /\
 LoopP (λ(d3:Int×Int) (q3:(Int×Int)->Prop) =>
  ((decide (d3.2<=n))=true ->
   (d3.1=0/\d3.2=xs.length/\xs.length<=1/\(∀ x∈xs,∀ y∈xs,(λ(x1:(Int×Int×Int×Int×Bool)×(Int×Int×Int×Int×Bool))=>p.1 ((x1.1.1,(x1.1.2.1,(x1.1.2.2.1,(x1.1.2.2.2.1,x1.1.2.2.2.2)))),(x1.2.1,(x1.2.2.1,(x1.2.2.2.1,(x1.2.2.2.2.1,x1.2.2.2.2.2)))))) (x,y)))/\(I64 (d3.2+(20:Int)))/\(∃ d4:Int×Int,((True/\n=n/\(SV.pf [(.pair (.i .i64) (.pair (.i .i64) (.pair (.i .i64) (.pair (.i .i64) .bo)))),(.pair (.i .i64) (.pair (.i .i64) (.pair (.i .i64) (.pair (.i .i64) .bo))))] (.i .i64) p.1 p.2=SV.pf [(.pair (.i .i64) (.pair (.i .i64) (.pair (.i .i64) (.pair (.i .i64) .bo)))),(.pair (.i .i64) (.pair (.i .i64) (.pair (.i .i64) (.pair (.i .i64) .bo))))] (.i .i64) p.1 p.2)/\(20:Int)=(20:Int)/\d3.2=d4.1/\(d3.2+(20:Int))=d4.2/\True)/\((xs=xs/\nl=nl)/\(vals=vals/\(True/\(([]:List SV)=[])))/\True))/\q3 d4)) /\
  ((decide (d3.2<=n))=false ->
   (d3.1=0/\n=xs.length/\xs.length<=1/\(∀ x∈xs,∀ y∈xs,(λ(x2:(Int×Int×Int×Int×Bool)×(Int×Int×Int×Int×Bool))=>p.1 ((x2.1.1,(x2.1.2.1,(x2.1.2.2.1,(x2.1.2.2.2.1,x2.1.2.2.2.2)))),(x2.2.1,(x2.2.2.1,(x2.2.2.2.1,(x2.2.2.2.2.1,x2.2.2.2.2.2)))))) (x,y)))/\∃ (e7:Unit) (d70:Bool×Int),((True/\n=n/\(SV.pf [(.pair (.i .i64) (.pair (.i .i64) (.pair (.i .i64) (.pair (.i .i64) .bo)))),(.pair (.i .i64) (.pair (.i .i64) (.pair (.i .i64) (.pair (.i .i64) .bo))))] (.i .i64) p.1 p.2=SV.pf [(.pair (.i .i64) (.pair (.i .i64) (.pair (.i .i64) (.pair (.i .i64) .bo)))),(.pair (.i .i64) (.pair (.i .i64) (.pair (.i .i64) (.pair (.i .i64) .bo))))] (.i .i64) p.1 p.2)/\(20:Int)=d70.2/\True)/\((xs=xs/\nl=d70.1)/\(vals=vals/\(True/\(([]:List SV)=[])))/\True)) /\
   LoopP (λ(d7:Bool×Int) (q7:(Bool×Int)->Prop) =>
    ((decide (d7.2<n))=true ->
     (I64 ((2:Int)*d7.2))/\∃ (ae:Bool×Int×Int) (d100:Unit),((True/\n=n/\(SV.pf [(.pair (.i .i64) (.pair (.i .i64) (.pair (.i .i64) (.pair (.i .i64) .bo)))),(.pair (.i .i64) (.pair (.i .i64) (.pair (.i .i64) (.pair (.i .i64) .bo))))] (.i .i64) p.1 p.2=SV.pf [(.pair (.i .i64) (.pair (.i .i64) (.pair (.i .i64) (.pair (.i .i64) .bo)))),(.pair (.i .i64) (.pair (.i .i64) (.pair (.i .i64) (.pair (.i .i64) .bo))))] (.i .i64) p.1 p.2)/\d7.2=ae.2.1/\(0:Int)=(0:Int)/\((2:Int)*d7.2)=ae.2.2/\True)/\((xs=xs/\d7.1=ae.1)/\(vals=vals/\(True/\(([]:List SV)=[])))/\True)) /\
     LoopP (λ(d10:Unit) (lH:(Unit)->Prop) =>
      ((decide (ae.2.2<=n))=true ->
       (I64 ((0:Int)+ae.2.1))/\False) /\
      ((decide (ae.2.2<=n))=false ->
       (I64 ((0:Int)+ae.2.1))/\((decide (((0:Int)+ae.2.1)<n))=true ->
        False) /\
       ((decide (((0:Int)+ae.2.1)<n))=false ->
        (I64 (ae.2.1*(2:Int)))/\(∃ d11:Bool×Int,((True/\n=n/\(SV.pf [(.pair (.i .i64) (.pair (.i .i64) (.pair (.i .i64) (.pair (.i .i64) .bo)))),(.pair (.i .i64) (.pair (.i .i64) (.pair (.i .i64) (.pair (.i .i64) .bo))))] (.i .i64) p.1 p.2=SV.pf [(.pair (.i .i64) (.pair (.i .i64) (.pair (.i .i64) (.pair (.i .i64) .bo)))),(.pair (.i .i64) (.pair (.i .i64) (.pair (.i .i64) (.pair (.i .i64) .bo))))] (.i .i64) p.1 p.2)/\(ae.2.1*(2:Int))=d11.2/\True)/\((xs=xs/\ae.1=d11.1)/\(vals=vals/\(True/\(([]:List SV)=[])))/\True))/\q7 d11)))) d100) /\
    ((decide (d7.2<n))=false ->
     (vals=vals/\(True/\(([]:List SV)=[]))/\((([]:List SV)=[]))/\(xs=xs/\d7.1=nl)))) d70)) d30
def ZK:Cx:=⟨[],[],63,[],0,[(98,Qz),(99,Z18)],[],[],[],false,[],[],[],[]⟩
def ZH (xs:List (Int×Int×Int×Int×Bool)) (nl:Bool) (n:Int) (p:((Int×Int×Int×Int×Bool)×(Int×Int×Int×Int×Bool)->Prop)×((Int×Int×Int×Int×Bool)×(Int×Int×Int×Int×Bool)->Int)) (vals:List Value):List (Nat×LoopAnn):=[(0,⟨Unit,Int×Int,[0,1,2,6,7,8],λe x=>[.lst 0,.val (.i .i64) n,.pf [(.pair (.i .i64) (.pair (.i .i64) (.pair (.i .i64) (.pair (.i .i64) .bo)))),(.pair (.i .i64) (.pair (.i .i64) (.pair (.i .i64) (.pair (.i .i64) .bo))))] (.i .i64) p.1 p.2,.val (.i .i64) (20:Int),.val (.i .i64) x.1,.val (.i .i64) x.2],λe x=>[(0,.slot 0,.lst 37 (.pair (.i .i64) (.pair (.i .i64) (.pair (.i .i64) (.pair (.i .i64) .bo)))) xs nl),(4000000,.key 4000000,.stk [.lst 0] vals)]⟩),
 (2,⟨Unit,Bool×Int,[0,1,2,6],λe x=>[.lst 0,.val (.i .i64) n,.pf [(.pair (.i .i64) (.pair (.i .i64) (.pair (.i .i64) (.pair (.i .i64) .bo)))),(.pair (.i .i64) (.pair (.i .i64) (.pair (.i .i64) (.pair (.i .i64) .bo))))] (.i .i64) p.1 p.2,.val (.i .i64) x.2],λe x=>[(0,.slot 0,.lst 37 (.pair (.i .i64) (.pair (.i .i64) (.pair (.i .i64) (.pair (.i .i64) .bo)))) xs x.1),(4000000,.key 4000000,.stk [.lst 0] vals)]⟩),
 (4,⟨Bool×Int×Int,Unit,[0,1,2,6,7,8],λe x=>[.lst 0,.val (.i .i64) n,.pf [(.pair (.i .i64) (.pair (.i .i64) (.pair (.i .i64) (.pair (.i .i64) .bo)))),(.pair (.i .i64) (.pair (.i .i64) (.pair (.i .i64) (.pair (.i .i64) .bo))))] (.i .i64) p.1 p.2,.val (.i .i64) e.2.1,.val (.i .i64) (0:Int),.val (.i .i64) e.2.2],λe x=>[(0,.slot 0,.lst 37 (.pair (.i .i64) (.pair (.i .i64) (.pair (.i .i64) (.pair (.i .i64) .bo)))) xs e.1),(4000000,.key 4000000,.stk [.lst 0] vals)]⟩)]
theorem W2 (xs:List (Int×Int×Int×Int×Bool)) (nl:Bool) (d:Int×(((Int×Int×Int×Int×Bool)×(Int×Int×Int×Int×Bool)->Prop)×((Int×Int×Int×Int×Bool)×(Int×Int×Int×Int×Bool)->Int))):(∀ vals,gwp ZK (ZH xs nl d.1 d.2 vals) c68 0 (Q3a vals [] (Zx xs nl d) (.lst 37 (.pair (.i .i64) (.pair (.i .i64) (.pair (.i .i64) (.pair (.i .i64) .bo)))) (Zq xs nl d) nl) (.lst 0)) (G5 63 (.lst 0) (.lst 37 (.pair (.i .i64) (.pair (.i .i64) (.pair (.i .i64) (.pair (.i .i64) .bo)))) xs nl) vals (AL.can ZM d)))=Qu xs nl d.1 d.2:=by kernel_rfl
abbrev W9:Prop:=XOk Tryz.prog 68 Z1
theorem Wf (h:∀ (xs:List (Int×Int×Int×Int×Bool)) (nl:Bool) (n:Int) (p:((Int×Int×Int×Int×Bool)×(Int×Int×Int×Int×Bool)->Prop)×((Int×Int×Int×Int×Bool)×(Int×Int×Int×Int×Bool)->Int)),(n=xs.length/\xs.length<=1/\(∀ x∈xs,∀ y∈xs,p.1 (x,y)))->Qu xs nl n p):XOk Tryz.prog 68 Z1 :=
 CX Z1k mixed (Co .nil 3) (C:=ZK) ⟨.nil,(XsOk.cons X6 (XsOk.cons Q5v XsOk.nil)),ItsOk.nil,YlOk.nil,IysOk.nil,XfOk.nil⟩ (L:=λxs nl (d:Int×(((Int×Int×Int×Int×Bool)×(Int×Int×Int×Int×Bool)->Prop)×((Int×Int×Int×Int×Bool)×(Int×Int×Int×Int×Bool)->Int))) vals=>ZH xs nl d.1 d.2 vals) (V:=λxs nl (d:Int×(((Int×Int×Int×Int×Bool)×(Int×Int×Int×Int×Bool)->Prop)×((Int×Int×Int×Int×Bool)×(Int×Int×Int×Int×Bool)->Int)))=>Qu xs nl d.1 d.2) W2 λxs nl d hp=>h xs nl d.1 d.2 hp
theorem XT:W9:=Wf λxs nl n p h=>by
 obtain⟨rfl,h3,h4⟩:=h;unfold Qu;(try delta lI gD sT I64 Q2 pj8 pj4);intro vals;refine⟨(),(0,20),(by and_intros<;>first|rfl|trivial|simp),?_⟩;refine⟨λd=>d=(0,20),λ_=>0,rfl,?_⟩;rintro _ rfl;refine⟨λc=>?_,λ_=>⟨⟨rfl,rfl,h3,h4⟩,(),(nl,20),(by and_intros<;>first|rfl|trivial|simp),?_⟩⟩
 .have c:(20:Int)<=xs.length:=by simpa using c
  omega
 .refine⟨λd=>d=(nl,20),λ_=>0,rfl,?_⟩;rintro _ rfl;refine⟨λc=>?_,λ_=>(by and_intros<;>first|rfl|trivial|simp)⟩;have c:(20:Int)<xs.length:=by simpa using c
  omega
def QH:AL (((Int×Int×Int×Int×Bool)×(Int×Int×Int×Int×Bool)->Prop)×((Int×Int×Int×Int×Bool)×(Int×Int×Int×Int×Bool)->Int)):=(.one (.fn [(.pair (.i .i64) (.pair (.i .i64) (.pair (.i .i64) (.pair (.i .i64) .bo)))),(.pair (.i .i64) (.pair (.i .i64) (.pair (.i .i64) (.pair (.i .i64) .bo))))] (.i .i64)))
def ZN (xs:List (Int×Int×Int×Int×Bool)) (nl:Bool) (d:((Int×Int×Int×Int×Bool)×(Int×Int×Int×Int×Bool)->Prop)×((Int×Int×Int×Int×Bool)×(Int×Int×Int×Int×Bool)->Int)):Prop:=xs.length<=1/\(∀ x∈xs,∀ y∈xs,d.1 (x,y))
def QE (xs:List (Int×Int×Int×Int×Bool)) (nl:Bool) (d:((Int×Int×Int×Int×Bool)×(Int×Int×Int×Int×Bool)->Prop)×((Int×Int×Int×Int×Bool)×(Int×Int×Int×Int×Bool)->Int)):SV:=.tup []
def QA (xs:List (Int×Int×Int×Int×Bool)) (nl:Bool) (d:((Int×Int×Int×Int×Bool)×(Int×Int×Int×Int×Bool)->Prop)×((Int×Int×Int×Int×Bool)×(Int×Int×Int×Int×Bool)->Int)):List (Int×Int×Int×Int×Bool):=xs
def Qc:XSp:=Oz (gap [(46,J1)] 3) (Q2y 37 (.pair (.i .i64) (.pair (.i .i64) (.pair (.i .i64) (.pair (.i .i64) .bo)))) QH ZN QE QA)
def Qa (xs:List (Int×Int×Int×Int×Bool)) (nl:Bool) (p:((Int×Int×Int×Int×Bool)×(Int×Int×Int×Int×Bool)->Prop)×((Int×Int×Int×Int×Bool)×(Int×Int×Int×Int×Bool)->Int)):Prop:=∀ vals:List Value,
 ((lI xs)=xs.length/\xs.length<=1/\(∀ x∈xs,∀ y∈xs,(λ(x1:(Int×Int×Int×Int×Bool)×(Int×Int×Int×Int×Bool))=>p.1 ((x1.1.1,(x1.1.2.1,(x1.1.2.2.1,(x1.1.2.2.2.1,x1.1.2.2.2.2)))),(x1.2.1,(x1.2.2.1,(x1.2.2.2.1,(x1.2.2.2.2.1,x1.2.2.2.2.2)))))) (x,y)))/\(vals=vals/\(True/\(([]:List SV)=[]))/\((([]:List SV)=[]))/\(xs=xs/\nl=nl))
def QJ:Cx:=⟨[],[],9,[],0,[(68,Z1)],[],[],[],false,[],[],[],[]⟩
def QI (xs:List (Int×Int×Int×Int×Bool)) (nl:Bool) (p:((Int×Int×Int×Int×Bool)×(Int×Int×Int×Int×Bool)->Prop)×((Int×Int×Int×Int×Bool)×(Int×Int×Int×Int×Bool)->Int)) (vals:List Value):List (Nat×LoopAnn):=[]
theorem ZP (xs:List (Int×Int×Int×Int×Bool)) (nl:Bool) (d:((Int×Int×Int×Int×Bool)×(Int×Int×Int×Int×Bool)->Prop)×((Int×Int×Int×Int×Bool)×(Int×Int×Int×Int×Bool)->Int)):(∀ vals,gwp QJ (QI xs nl d vals) c45 0 (Q3a vals [] (QE xs nl d) (.lst 37 (.pair (.i .i64) (.pair (.i .i64) (.pair (.i .i64) (.pair (.i .i64) .bo)))) (QA xs nl d) nl) (.lst 0)) (G5 9 (.lst 0) (.lst 37 (.pair (.i .i64) (.pair (.i .i64) (.pair (.i .i64) (.pair (.i .i64) .bo)))) xs nl) vals (AL.can QH d)))=Qa xs nl d:=by kernel_rfl
abbrev ZO:Prop:=XOk Tryz.prog 45 Qc
theorem ZQ (h:∀ (xs:List (Int×Int×Int×Int×Bool)) (nl:Bool) (p:((Int×Int×Int×Int×Bool)×(Int×Int×Int×Int×Bool)->Prop)×((Int×Int×Int×Int×Bool)×(Int×Int×Int×Int×Bool)->Int)),(xs.length<=1/\(∀ x∈xs,∀ y∈xs,p.1 (x,y)))->Qa xs nl p):XOk Tryz.prog 45 Qc :=
 CX Z2k mixed (Co (.cons XY .nil) 3) (C:=QJ) ⟨.nil,(XsOk.cons XT XsOk.nil),ItsOk.nil,YlOk.nil,IysOk.nil,XfOk.nil⟩ (L:=λxs nl (d:((Int×Int×Int×Int×Bool)×(Int×Int×Int×Int×Bool)->Prop)×((Int×Int×Int×Int×Bool)×(Int×Int×Int×Int×Bool)->Int)) vals=>QI xs nl d vals) (V:=λxs nl (d:((Int×Int×Int×Int×Bool)×(Int×Int×Int×Int×Bool)->Prop)×((Int×Int×Int×Int×Bool)×(Int×Int×Int×Int×Bool)->Int))=>Qa xs nl d) ZP λxs nl d hp=>h xs nl d hp
theorem QF:ZO:=ZQ λxs nl p h=>by unfold Qa;(try delta lI gD sT I64 Q2 pj8 pj4);intro vals;exact⟨⟨rfl,h.1,h.2⟩,(by and_intros<;>first|rfl|trivial|simp)⟩
def U1:AL ((Int×List Int×Int×List Int)×Unit):=(.cons (.agg (.cons (.k (.i .i64)) (.cons (.k (.list (.i .i64))) (.cons (.k (.i .i64)) (.one (.k (.list (.i .i64)))))))) (.one .nilS))
def Dw (d:(Int×List Int×Int×List Int)×Unit):Prop:=Qb d.1.1 d.1.2.1 d.1.2.2.1 d.1.2.2.2=0/\d.1.2.1.length<=110/\d.1.2.2.2.length<=110
def V1 (d:(Int×List Int×Int×List Int)×Unit):SV:=.lst 0
def V4 (d:(Int×List Int×Int×List Int)×Unit):List OB:=[.lst 9 .st (Ve d.1.2.1 d.1.2.2.1 d.1.2.2.2 []) false]
def XK:CSp:=XU U1 Dw V1 V4
def Xq (hk:Int) (lw:List Int) (hd:Int) (rows:List Int):Prop :=
 (rows≠[]/\rows.length<=110)/\(True)/\(([]:List Dmg).length<=1/\(∀ x∈([]:List Dmg),∀ y∈([]:List Dmg),(λ(x1:(Int×Int×Int×Int×Bool)×(Int×Int×Int×Int×Bool))=>True) (x,y)))/\∀ w1:List Value,w1=w1/\∃ (e4:Unit) (d40:(List Int)×(List (Int×Bool))×Int),((True/\True/\True/\True/\True/\(lI ([]:List Dmg))=(lI ([]:List Dmg))/\(0:Int)=d40.2.2/\True)/\((hk=hk/\lw=lw/\hd=hd/\rows=rows/\(([]:List SV)=[]))/\(rows=d40.1/\false=false)/\(([]:List (Int×Bool))=d40.2.1)/\True/\(([]:List Dmg)=([]:List Dmg)/\true=(List.isEmpty ([]:List Dmg)))/\True)) /\
 LoopP (λ(d4:(List Int)×(List (Int×Bool))×Int) (q4:((List Int)×(List (Int×Bool))×Int)->Prop) =>
  ((decide (d4.2.2<(lI ([]:List Dmg))))=true ->
   (0<=d4.2.2)/\(d4.2.2<(List.length ([]:List Dmg)))/\(1<=(gD ([]:List Dmg) d4.2.2 (0,(0,(0,(0,false))))).1)/\((gD ([]:List Dmg) d4.2.2 (0,(0,(0,(0,false))))).1<=((5:Nat):Int)) /\
   ((gD ([]:List Dmg) d4.2.2 (0,(0,(0,(0,false))))).1=(1:Int) ->
    ∀ w5:List Value,(0<=(gD ([]:List Dmg) d4.2.2 (0,(0,(0,(0,false))))).2.1)/\((gD ([]:List Dmg) d4.2.2 (0,(0,(0,(0,false))))).2.1<(List.length d4.1))/\(0<=(gD ([]:List Dmg) d4.2.2 (0,(0,(0,(0,false))))).2.2.1)/\(I64 (WX .i64 (1:Int) (gD ([]:List Dmg) d4.2.2 (0,(0,(0,(0,false))))).2.2.1))/\(0<=(gD ([]:List Dmg) d4.2.2 (0,(0,(0,(0,false))))).2.1)/\((gD ([]:List Dmg) d4.2.2 (0,(0,(0,(0,false))))).2.1<(List.length d4.1))/\w5=w5/\(I64 (d4.2.2+(1:Int)))/\(∃ d6:(List Int)×(List (Int×Bool))×Int,((True/\True/\True/\True/\True/\(lI ([]:List Dmg))=(lI ([]:List Dmg))/\(d4.2.2+(1:Int))=d6.2.2/\True)/\((hk=hk/\lw=lw/\hd=hd/\rows=rows/\(([]:List SV)=[]))/\((List.set d4.1 (Int.toNat (gD ([]:List Dmg) d4.2.2 (0,(0,(0,(0,false))))).2.1) (Q1 .xor .i64 (List.getD d4.1 (Int.toNat (gD ([]:List Dmg) d4.2.2 (0,(0,(0,(0,false))))).2.1) 0) (WX .i64 (1:Int) (gD ([]:List Dmg) d4.2.2 (0,(0,(0,(0,false))))).2.2.1)))=d6.1/\false=false)/\(d4.2.1=d6.2.1)/\True/\(([]:List Dmg)=([]:List Dmg)/\(List.isEmpty ([]:List Dmg))=(List.isEmpty ([]:List Dmg)))/\True))/\q4 d6)) /\
   ((gD ([]:List Dmg) d4.2.2 (0,(0,(0,(0,false))))).1=(2:Int) ->
    ∀ w7:List Value,∃ (ae:Int×Int×Int×Int×Bool×Int×Int×(List Int)×Int×(List Int)×(List (Int×Bool))×Int×Int×Int×Int×Bool×(List (Int×Int×Int×Int×Bool))×Int×Int×Bool×Int×Int×Int×Int×Bool×Int×Int×(List Int)×Int×(List Int)×Int×Int×Int×Int×Bool×(List Value)) (d100:(List Int)×Int),((True/\True/\(lI d4.1)=(pj4 ae).2.1/\(0:Int)=d100.2/\True)/\((d4.1=d100.1/\false=false)/\((gD ([]:List Dmg) d4.2.2 (0,(0,(0,(0,false))))).1=ae.1/\(gD ([]:List Dmg) d4.2.2 (0,(0,(0,(0,false))))).2.1=ae.2.1/\(gD ([]:List Dmg) d4.2.2 (0,(0,(0,(0,false))))).2.2.1=ae.2.2.1/\(gD ([]:List Dmg) d4.2.2 (0,(0,(0,(0,false))))).2.2.2.1=ae.2.2.2.1/\(gD ([]:List Dmg) d4.2.2 (0,(0,(0,(0,false))))).2.2.2.2=(pj4 ae).1/\(([]:List SV)=[]))/\((Q2 (Q2 ae)).2.2.2=w7/\(True/\True/\True/\True/\True/\True/\True/\True/\True/\True/\True/\True/\True/\True/\True/\True/\True/\True/\True/\True/\True/\True/\True/\True/\True/\True/\(lI ([]:List Dmg))=(Q2 ae).2.1/\d4.2.2=(Q2 ae).2.2.1/\(decide (d4.2.2<(lI ([]:List Dmg))))=(Q2 ae).2.2.2.1/\True/\((gD ([]:List Dmg) d4.2.2 (0,(0,(0,(0,false))))).1=(pj4 (Q2 ae)).1/\(gD ([]:List Dmg) d4.2.2 (0,(0,(0,(0,false))))).2.1=(pj4 (Q2 ae)).2.1/\(gD ([]:List Dmg) d4.2.2 (0,(0,(0,(0,false))))).2.2.1=(pj4 (Q2 ae)).2.2.1/\(gD ([]:List Dmg) d4.2.2 (0,(0,(0,(0,false))))).2.2.2.1=(pj4 (Q2 ae)).2.2.2.1/\(gD ([]:List Dmg) d4.2.2 (0,(0,(0,(0,false))))).2.2.2.2=(pj8 (Q2 ae)).1/\(([]:List SV)=[]))/\True/\True/\(2:Int)=(pj8 (Q2 ae)).2.1/\(((([]:List SV)=[]))/\((([]:List SV)=[])))/\(hk=(pj8 (Q2 ae)).2.2.1/\lw=(pj8 (Q2 ae)).2.2.2.1/\hd=(pj4 (pj8 (Q2 ae))).1/\rows=(pj4 (pj8 (Q2 ae))).2.1/\(([]:List SV)=[]))/\((gD ([]:List Dmg) d4.2.2 (0,(0,(0,(0,false))))).1=(pj4 (pj8 (Q2 ae))).2.2.1/\(gD ([]:List Dmg) d4.2.2 (0,(0,(0,(0,false))))).2.1=(pj4 (pj8 (Q2 ae))).2.2.2.1/\(gD ([]:List Dmg) d4.2.2 (0,(0,(0,(0,false))))).2.2.1=(Q2 (Q2 ae)).1/\(gD ([]:List Dmg) d4.2.2 (0,(0,(0,(0,false))))).2.2.2.1=(Q2 (Q2 ae)).2.1/\(gD ([]:List Dmg) d4.2.2 (0,(0,(0,(0,false))))).2.2.2.2=(Q2 (Q2 ae)).2.2.1/\(([]:List SV)=[]))/\True/\True/\True/\True/\True/\True/\True/\True/\True/\True/\True/\True/\True/\True/\True/\True/\True/\True/\True/\True/\True/\True/\True/\True/\True/\True/\True/\True/\True/\True/\True/\True/\True/\True/\True/\True/\True/\True/\True/\True/\True/\True/\(([]:List SV)=[])))/\(hk=(pj4 ae).2.2.1/\lw=(pj4 ae).2.2.2.1/\hd=(pj8 ae).1/\rows=(pj8 ae).2.1/\(([]:List SV)=[]))/\(d4.2.1=(pj8 ae).2.2.1)/\True/\((gD ([]:List Dmg) d4.2.2 (0,(0,(0,(0,false))))).1=(pj8 ae).2.2.2.1/\(gD ([]:List Dmg) d4.2.2 (0,(0,(0,(0,false))))).2.1=(pj4 (pj8 ae)).1/\(gD ([]:List Dmg) d4.2.2 (0,(0,(0,(0,false))))).2.2.1=(pj4 (pj8 ae)).2.1/\(gD ([]:List Dmg) d4.2.2 (0,(0,(0,(0,false))))).2.2.2.1=(pj4 (pj8 ae)).2.2.1/\(gD ([]:List Dmg) d4.2.2 (0,(0,(0,(0,false))))).2.2.2.2=(pj4 (pj8 ae)).2.2.2.1/\(([]:List SV)=[]))/\(([]:List Dmg)=(Q2 ae).1/\(List.isEmpty ([]:List Dmg))=(List.isEmpty (Q2 ae).1))/\True)) /\
    LoopP (λ(d10:(List Int)×Int) (lH:((List Int)×Int)->Prop) =>
     ((decide (d10.2<(pj4 ae).2.1))=true ->
      (0<=d10.2)/\(d10.2<(List.length d10.1))/\(0<=ae.2.2.1)/\(I64 (WX .i64 (1:Int) ae.2.2.1))/\(0<=d10.2)/\(d10.2<(List.length d10.1))/\((!(pj4 ae).1)=true ->
       (0<=d10.2)/\(d10.2<(List.length (sT d10.1 d10.2 (Q1 .or .i64 (gD d10.1 d10.2 0) (WX .i64 (1:Int) ae.2.2.1)))))/\(0<=ae.2.2.1)/\(I64 (WX .i64 (1:Int) ae.2.2.1))/\(0<=d10.2)/\(d10.2<(List.length (sT d10.1 d10.2 (Q1 .or .i64 (gD d10.1 d10.2 0) (WX .i64 (1:Int) ae.2.2.1)))))/\(I64 (d10.2+(1:Int)))/\(∃ d11:(List Int)×Int,((True/\True/\(pj4 ae).2.1=(pj4 ae).2.1/\(d10.2+(1:Int))=d11.2/\True)/\(((sT (sT d10.1 d10.2 (Q1 .or .i64 (gD d10.1 d10.2 0) (WX .i64 (1:Int) ae.2.2.1))) d10.2 (Q1 .xor .i64 (gD (sT d10.1 d10.2 (Q1 .or .i64 (gD d10.1 d10.2 0) (WX .i64 (1:Int) ae.2.2.1))) d10.2 0) (WX .i64 (1:Int) ae.2.2.1)))=d11.1/\false=false)/\(ae.1=ae.1/\ae.2.1=ae.2.1/\ae.2.2.1=ae.2.2.1/\ae.2.2.2.1=ae.2.2.2.1/\(pj4 ae).1=(pj4 ae).1/\(([]:List SV)=[]))/\((Q2 (Q2 ae)).2.2.2=(Q2 (Q2 ae)).2.2.2/\(True/\True/\True/\True/\True/\True/\True/\True/\True/\True/\True/\True/\True/\True/\True/\True/\True/\True/\True/\True/\True/\True/\True/\True/\True/\True/\(Q2 ae).2.1=(Q2 ae).2.1/\(Q2 ae).2.2.1=(Q2 ae).2.2.1/\(Q2 ae).2.2.2.1=(Q2 ae).2.2.2.1/\True/\((pj4 (Q2 ae)).1=(pj4 (Q2 ae)).1/\(pj4 (Q2 ae)).2.1=(pj4 (Q2 ae)).2.1/\(pj4 (Q2 ae)).2.2.1=(pj4 (Q2 ae)).2.2.1/\(pj4 (Q2 ae)).2.2.2.1=(pj4 (Q2 ae)).2.2.2.1/\(pj8 (Q2 ae)).1=(pj8 (Q2 ae)).1/\(([]:List SV)=[]))/\True/\True/\(pj8 (Q2 ae)).2.1=(pj8 (Q2 ae)).2.1/\(((([]:List SV)=[]))/\((([]:List SV)=[])))/\((pj8 (Q2 ae)).2.2.1=(pj8 (Q2 ae)).2.2.1/\(pj8 (Q2 ae)).2.2.2.1=(pj8 (Q2 ae)).2.2.2.1/\(pj4 (pj8 (Q2 ae))).1=(pj4 (pj8 (Q2 ae))).1/\(pj4 (pj8 (Q2 ae))).2.1=(pj4 (pj8 (Q2 ae))).2.1/\(([]:List SV)=[]))/\((pj4 (pj8 (Q2 ae))).2.2.1=(pj4 (pj8 (Q2 ae))).2.2.1/\(pj4 (pj8 (Q2 ae))).2.2.2.1=(pj4 (pj8 (Q2 ae))).2.2.2.1/\(Q2 (Q2 ae)).1=(Q2 (Q2 ae)).1/\(Q2 (Q2 ae)).2.1=(Q2 (Q2 ae)).2.1/\(Q2 (Q2 ae)).2.2.1=(Q2 (Q2 ae)).2.2.1/\(([]:List SV)=[]))/\True/\True/\True/\True/\True/\True/\True/\True/\True/\True/\True/\True/\True/\True/\True/\True/\True/\True/\True/\True/\True/\True/\True/\True/\True/\True/\True/\True/\True/\True/\True/\True/\True/\True/\True/\True/\True/\True/\True/\True/\True/\True/\(([]:List SV)=[])))/\((pj4 ae).2.2.1=(pj4 ae).2.2.1/\(pj4 ae).2.2.2.1=(pj4 ae).2.2.2.1/\(pj8 ae).1=(pj8 ae).1/\(pj8 ae).2.1=(pj8 ae).2.1/\(([]:List SV)=[]))/\((pj8 ae).2.2.1=(pj8 ae).2.2.1)/\True/\((pj8 ae).2.2.2.1=(pj8 ae).2.2.2.1/\(pj4 (pj8 ae)).1=(pj4 (pj8 ae)).1/\(pj4 (pj8 ae)).2.1=(pj4 (pj8 ae)).2.1/\(pj4 (pj8 ae)).2.2.1=(pj4 (pj8 ae)).2.2.1/\(pj4 (pj8 ae)).2.2.2.1=(pj4 (pj8 ae)).2.2.2.1/\(([]:List SV)=[]))/\((Q2 ae).1=(Q2 ae).1/\(List.isEmpty (Q2 ae).1)=(List.isEmpty (Q2 ae).1))/\True))/\lH d11)) /\
      ((!(pj4 ae).1)=false ->
       (I64 (d10.2+(1:Int)))/\(∃ d12:(List Int)×Int,((True/\True/\(pj4 ae).2.1=(pj4 ae).2.1/\(d10.2+(1:Int))=d12.2/\True)/\(((sT d10.1 d10.2 (Q1 .or .i64 (gD d10.1 d10.2 0) (WX .i64 (1:Int) ae.2.2.1)))=d12.1/\false=false)/\(ae.1=ae.1/\ae.2.1=ae.2.1/\ae.2.2.1=ae.2.2.1/\ae.2.2.2.1=ae.2.2.2.1/\(pj4 ae).1=(pj4 ae).1/\(([]:List SV)=[]))/\((Q2 (Q2 ae)).2.2.2=(Q2 (Q2 ae)).2.2.2/\(True/\True/\True/\True/\True/\True/\True/\True/\True/\True/\True/\True/\True/\True/\True/\True/\True/\True/\True/\True/\True/\True/\True/\True/\True/\True/\(Q2 ae).2.1=(Q2 ae).2.1/\(Q2 ae).2.2.1=(Q2 ae).2.2.1/\(Q2 ae).2.2.2.1=(Q2 ae).2.2.2.1/\True/\((pj4 (Q2 ae)).1=(pj4 (Q2 ae)).1/\(pj4 (Q2 ae)).2.1=(pj4 (Q2 ae)).2.1/\(pj4 (Q2 ae)).2.2.1=(pj4 (Q2 ae)).2.2.1/\(pj4 (Q2 ae)).2.2.2.1=(pj4 (Q2 ae)).2.2.2.1/\(pj8 (Q2 ae)).1=(pj8 (Q2 ae)).1/\(([]:List SV)=[]))/\True/\True/\(pj8 (Q2 ae)).2.1=(pj8 (Q2 ae)).2.1/\(((([]:List SV)=[]))/\((([]:List SV)=[])))/\((pj8 (Q2 ae)).2.2.1=(pj8 (Q2 ae)).2.2.1/\(pj8 (Q2 ae)).2.2.2.1=(pj8 (Q2 ae)).2.2.2.1/\(pj4 (pj8 (Q2 ae))).1=(pj4 (pj8 (Q2 ae))).1/\(pj4 (pj8 (Q2 ae))).2.1=(pj4 (pj8 (Q2 ae))).2.1/\(([]:List SV)=[]))/\((pj4 (pj8 (Q2 ae))).2.2.1=(pj4 (pj8 (Q2 ae))).2.2.1/\(pj4 (pj8 (Q2 ae))).2.2.2.1=(pj4 (pj8 (Q2 ae))).2.2.2.1/\(Q2 (Q2 ae)).1=(Q2 (Q2 ae)).1/\(Q2 (Q2 ae)).2.1=(Q2 (Q2 ae)).2.1/\(Q2 (Q2 ae)).2.2.1=(Q2 (Q2 ae)).2.2.1/\(([]:List SV)=[]))/\True/\True/\True/\True/\True/\True/\True/\True/\True/\True/\True/\True/\True/\True/\True/\True/\True/\True/\True/\True/\True/\True/\True/\True/\True/\True/\True/\True/\True/\True/\True/\True/\True/\True/\True/\True/\True/\True/\True/\True/\True/\True/\(([]:List SV)=[])))/\((pj4 ae).2.2.1=(pj4 ae).2.2.1/\(pj4 ae).2.2.2.1=(pj4 ae).2.2.2.1/\(pj8 ae).1=(pj8 ae).1/\(pj8 ae).2.1=(pj8 ae).2.1/\(([]:List SV)=[]))/\((pj8 ae).2.2.1=(pj8 ae).2.2.1)/\True/\((pj8 ae).2.2.2.1=(pj8 ae).2.2.2.1/\(pj4 (pj8 ae)).1=(pj4 (pj8 ae)).1/\(pj4 (pj8 ae)).2.1=(pj4 (pj8 ae)).2.1/\(pj4 (pj8 ae)).2.2.1=(pj4 (pj8 ae)).2.2.1/\(pj4 (pj8 ae)).2.2.2.1=(pj4 (pj8 ae)).2.2.2.1/\(([]:List SV)=[]))/\((Q2 ae).1=(Q2 ae).1/\(List.isEmpty (Q2 ae).1)=(List.isEmpty (Q2 ae).1))/\True))/\lH d12))) /\
     ((decide (d10.2<(pj4 ae).2.1))=false ->
      (Q2 (Q2 ae)).2.2.2=w7/\(I64 ((Q2 ae).2.2.1+(1:Int)))/\(∃ d13:(List Int)×(List (Int×Bool))×Int,((True/\True/\True/\True/\True/\(Q2 ae).2.1=(lI ([]:List Dmg))/\((Q2 ae).2.2.1+(1:Int))=d13.2.2/\True)/\(((pj4 ae).2.2.1=hk/\(pj4 ae).2.2.2.1=lw/\(pj8 ae).1=hd/\(pj8 ae).2.1=rows/\(([]:List SV)=[]))/\(d10.1=d13.1/\false=false)/\((pj8 ae).2.2.1=d13.2.1)/\True/\((Q2 ae).1=([]:List Dmg)/\(List.isEmpty (Q2 ae).1)=(List.isEmpty ([]:List Dmg)))/\True))/\q4 d13))) d100) /\
   ((gD ([]:List Dmg) d4.2.2 (0,(0,(0,(0,false))))).1=(3:Int) ->
    ∀ kX:List Value,∃ (ah:(List Int)×Int×Int×Int×Int×Bool×Int×Int×(List Int)×Int×(List Int)×(List (Int×Bool))×Int×Int×Int×Int×Bool×(List (Int×Int×Int×Int×Bool))×Int×Int×Bool×Int×Int×Int×Int×Bool×Int×Int×(List Int)×Int×(List Int)×Int×Int×Int×Int×Bool×(List Value)) (d170:Int×Int),((True/\True/\(0:Int)=d170.1/\hd=(pj4 ah).2.2.1/\(0:Int)=d170.2/\True)/\((d4.1=ah.1/\false=false)/\((gD ([]:List Dmg) d4.2.2 (0,(0,(0,(0,false))))).1=ah.2.1/\(gD ([]:List Dmg) d4.2.2 (0,(0,(0,(0,false))))).2.1=ah.2.2.1/\(gD ([]:List Dmg) d4.2.2 (0,(0,(0,(0,false))))).2.2.1=ah.2.2.2.1/\(gD ([]:List Dmg) d4.2.2 (0,(0,(0,(0,false))))).2.2.2.1=(pj4 ah).1/\(gD ([]:List Dmg) d4.2.2 (0,(0,(0,(0,false))))).2.2.2.2=(pj4 ah).2.1/\(([]:List SV)=[]))/\((pj4 (Q2 (Q2 ah)))=kX/\(True/\True/\True/\True/\True/\True/\True/\True/\True/\True/\True/\True/\True/\True/\True/\True/\True/\True/\True/\True/\True/\True/\True/\True/\True/\True/\(lI ([]:List Dmg))=(Q2 ah).2.2.1/\d4.2.2=(Q2 ah).2.2.2.1/\(decide (d4.2.2<(lI ([]:List Dmg))))=(pj4 (Q2 ah)).1/\True/\((gD ([]:List Dmg) d4.2.2 (0,(0,(0,(0,false))))).1=(pj4 (Q2 ah)).2.1/\(gD ([]:List Dmg) d4.2.2 (0,(0,(0,(0,false))))).2.1=(pj4 (Q2 ah)).2.2.1/\(gD ([]:List Dmg) d4.2.2 (0,(0,(0,(0,false))))).2.2.1=(pj4 (Q2 ah)).2.2.2.1/\(gD ([]:List Dmg) d4.2.2 (0,(0,(0,(0,false))))).2.2.2.1=(pj8 (Q2 ah)).1/\(gD ([]:List Dmg) d4.2.2 (0,(0,(0,(0,false))))).2.2.2.2=(pj8 (Q2 ah)).2.1/\(([]:List SV)=[]))/\True/\True/\(3:Int)=(pj8 (Q2 ah)).2.2.1/\(((([]:List SV)=[]))/\((([]:List SV)=[])))/\(hk=(pj8 (Q2 ah)).2.2.2.1/\lw=(pj4 (pj8 (Q2 ah))).1/\hd=(pj4 (pj8 (Q2 ah))).2.1/\rows=(pj4 (pj8 (Q2 ah))).2.2.1/\(([]:List SV)=[]))/\((gD ([]:List Dmg) d4.2.2 (0,(0,(0,(0,false))))).1=(pj4 (pj8 (Q2 ah))).2.2.2.1/\(gD ([]:List Dmg) d4.2.2 (0,(0,(0,(0,false))))).2.1=(Q2 (Q2 ah)).1/\(gD ([]:List Dmg) d4.2.2 (0,(0,(0,(0,false))))).2.2.1=(Q2 (Q2 ah)).2.1/\(gD ([]:List Dmg) d4.2.2 (0,(0,(0,(0,false))))).2.2.2.1=(Q2 (Q2 ah)).2.2.1/\(gD ([]:List Dmg) d4.2.2 (0,(0,(0,(0,false))))).2.2.2.2=(Q2 (Q2 ah)).2.2.2.1/\(([]:List SV)=[]))/\True/\True/\True/\True/\True/\True/\True/\True/\True/\True/\True/\True/\True/\True/\True/\True/\True/\True/\True/\True/\True/\True/\True/\True/\True/\True/\True/\True/\True/\True/\True/\True/\True/\True/\True/\True/\True/\True/\True/\True/\True/\True/\(([]:List SV)=[])))/\(hk=(pj4 ah).2.2.2.1/\lw=(pj8 ah).1/\hd=(pj8 ah).2.1/\rows=(pj8 ah).2.2.1/\(([]:List SV)=[]))/\(d4.2.1=(pj8 ah).2.2.2.1)/\True/\((gD ([]:List Dmg) d4.2.2 (0,(0,(0,(0,false))))).1=(pj4 (pj8 ah)).1/\(gD ([]:List Dmg) d4.2.2 (0,(0,(0,(0,false))))).2.1=(pj4 (pj8 ah)).2.1/\(gD ([]:List Dmg) d4.2.2 (0,(0,(0,(0,false))))).2.2.1=(pj4 (pj8 ah)).2.2.1/\(gD ([]:List Dmg) d4.2.2 (0,(0,(0,(0,false))))).2.2.2.1=(pj4 (pj8 ah)).2.2.2.1/\(gD ([]:List Dmg) d4.2.2 (0,(0,(0,(0,false))))).2.2.2.2=(Q2 ah).1/\(([]:List SV)=[]))/\(([]:List Dmg)=(Q2 ah).2.1/\(List.isEmpty ([]:List Dmg))=(List.isEmpty (Q2 ah).2.1))/\True)) /\
    LoopP (λ(d17:Int×Int) (qn:(Int×Int)->Prop) =>
     ((decide (d17.2<(pj4 ah).2.2.1))=true ->
      (0<=(1:Int))/\(I64 (WX .i64 d17.1 (1:Int)))/\(0<=ah.2.2.1)/\(ah.2.2.1<(List.length ah.1))/\(0<=d17.2)/\(I64 (d17.2+(1:Int)))/\(∃ d18:Int×Int,((True/\True/\(Q1 .or .i64 (WX .i64 d17.1 (1:Int)) (Q1 .and .i64 (Q9 .i64 (gD ah.1 ah.2.2.1 0) d17.2) (1:Int)))=d18.1/\(pj4 ah).2.2.1=(pj4 ah).2.2.1/\(d17.2+(1:Int))=d18.2/\True)/\((ah.1=ah.1/\false=false)/\(ah.2.1=ah.2.1/\ah.2.2.1=ah.2.2.1/\ah.2.2.2.1=ah.2.2.2.1/\(pj4 ah).1=(pj4 ah).1/\(pj4 ah).2.1=(pj4 ah).2.1/\(([]:List SV)=[]))/\((pj4 (Q2 (Q2 ah)))=(pj4 (Q2 (Q2 ah)))/\(True/\True/\True/\True/\True/\True/\True/\True/\True/\True/\True/\True/\True/\True/\True/\True/\True/\True/\True/\True/\True/\True/\True/\True/\True/\True/\(Q2 ah).2.2.1=(Q2 ah).2.2.1/\(Q2 ah).2.2.2.1=(Q2 ah).2.2.2.1/\(pj4 (Q2 ah)).1=(pj4 (Q2 ah)).1/\True/\((pj4 (Q2 ah)).2.1=(pj4 (Q2 ah)).2.1/\(pj4 (Q2 ah)).2.2.1=(pj4 (Q2 ah)).2.2.1/\(pj4 (Q2 ah)).2.2.2.1=(pj4 (Q2 ah)).2.2.2.1/\(pj8 (Q2 ah)).1=(pj8 (Q2 ah)).1/\(pj8 (Q2 ah)).2.1=(pj8 (Q2 ah)).2.1/\(([]:List SV)=[]))/\True/\True/\(pj8 (Q2 ah)).2.2.1=(pj8 (Q2 ah)).2.2.1/\(((([]:List SV)=[]))/\((([]:List SV)=[])))/\((pj8 (Q2 ah)).2.2.2.1=(pj8 (Q2 ah)).2.2.2.1/\(pj4 (pj8 (Q2 ah))).1=(pj4 (pj8 (Q2 ah))).1/\(pj4 (pj8 (Q2 ah))).2.1=(pj4 (pj8 (Q2 ah))).2.1/\(pj4 (pj8 (Q2 ah))).2.2.1=(pj4 (pj8 (Q2 ah))).2.2.1/\(([]:List SV)=[]))/\((pj4 (pj8 (Q2 ah))).2.2.2.1=(pj4 (pj8 (Q2 ah))).2.2.2.1/\(Q2 (Q2 ah)).1=(Q2 (Q2 ah)).1/\(Q2 (Q2 ah)).2.1=(Q2 (Q2 ah)).2.1/\(Q2 (Q2 ah)).2.2.1=(Q2 (Q2 ah)).2.2.1/\(Q2 (Q2 ah)).2.2.2.1=(Q2 (Q2 ah)).2.2.2.1/\(([]:List SV)=[]))/\True/\True/\True/\True/\True/\True/\True/\True/\True/\True/\True/\True/\True/\True/\True/\True/\True/\True/\True/\True/\True/\True/\True/\True/\True/\True/\True/\True/\True/\True/\True/\True/\True/\True/\True/\True/\True/\True/\True/\True/\True/\True/\(([]:List SV)=[])))/\((pj4 ah).2.2.2.1=(pj4 ah).2.2.2.1/\(pj8 ah).1=(pj8 ah).1/\(pj8 ah).2.1=(pj8 ah).2.1/\(pj8 ah).2.2.1=(pj8 ah).2.2.1/\(([]:List SV)=[]))/\((pj8 ah).2.2.2.1=(pj8 ah).2.2.2.1)/\True/\((pj4 (pj8 ah)).1=(pj4 (pj8 ah)).1/\(pj4 (pj8 ah)).2.1=(pj4 (pj8 ah)).2.1/\(pj4 (pj8 ah)).2.2.1=(pj4 (pj8 ah)).2.2.1/\(pj4 (pj8 ah)).2.2.2.1=(pj4 (pj8 ah)).2.2.2.1/\(Q2 ah).1=(Q2 ah).1/\(([]:List SV)=[]))/\((Q2 ah).2.1=(Q2 ah).2.1/\(List.isEmpty (Q2 ah).2.1)=(List.isEmpty (Q2 ah).2.1))/\True))/\qn d18)) /\
     ((decide (d17.2<(pj4 ah).2.2.1))=false ->
      (0<=ah.2.2.1)/\(ah.2.2.1<(List.length ah.1))/\(pj4 (Q2 (Q2 ah)))=kX/\(I64 ((Q2 ah).2.2.2.1+(1:Int)))/\(∃ d19:(List Int)×(List (Int×Bool))×Int,((True/\True/\True/\True/\True/\(Q2 ah).2.2.1=(lI ([]:List Dmg))/\((Q2 ah).2.2.2.1+(1:Int))=d19.2.2/\True)/\(((pj4 ah).2.2.2.1=hk/\(pj8 ah).1=lw/\(pj8 ah).2.1=hd/\(pj8 ah).2.2.1=rows/\(([]:List SV)=[]))/\((sT ah.1 ah.2.2.1 d17.1)=d19.1/\false=false)/\((pj8 ah).2.2.2.1=d19.2.1)/\True/\((Q2 ah).2.1=([]:List Dmg)/\(List.isEmpty (Q2 ah).2.1)=(List.isEmpty ([]:List Dmg)))/\True))/\q4 d19))) d170) /\
   ((gD ([]:List Dmg) d4.2.2 (0,(0,(0,(0,false))))).1=(4:Int) ->
    ∀ lJ:List Value,(I64 ((gD ([]:List Dmg) d4.2.2 (0,(0,(0,(0,false))))).2.1+(1:Int)))/\((lI d4.1)≠0)/\(0<=(gD ([]:List Dmg) d4.2.2 (0,(0,(0,(0,false))))).2.1)/\((gD ([]:List Dmg) d4.2.2 (0,(0,(0,(0,false))))).2.1<(List.length d4.1))/\(0<=(Int.tmod ((gD ([]:List Dmg) d4.2.2 (0,(0,(0,(0,false))))).2.1+(1:Int)) (lI d4.1)))/\((Int.tmod ((gD ([]:List Dmg) d4.2.2 (0,(0,(0,(0,false))))).2.1+(1:Int)) (lI d4.1))<(List.length d4.1))/\(0<=(gD ([]:List Dmg) d4.2.2 (0,(0,(0,(0,false))))).2.1)/\((gD ([]:List Dmg) d4.2.2 (0,(0,(0,(0,false))))).2.1<(List.length d4.1))/\(0<=(Int.tmod ((gD ([]:List Dmg) d4.2.2 (0,(0,(0,(0,false))))).2.1+(1:Int)) (lI d4.1)))/\((Int.tmod ((gD ([]:List Dmg) d4.2.2 (0,(0,(0,(0,false))))).2.1+(1:Int)) (lI d4.1))<(List.length (List.set d4.1 (Int.toNat (gD ([]:List Dmg) d4.2.2 (0,(0,(0,(0,false))))).2.1) (gD d4.1 (Int.tmod ((gD ([]:List Dmg) d4.2.2 (0,(0,(0,(0,false))))).2.1+(1:Int)) (lI d4.1)) 0))))/\lJ=lJ/\(I64 (d4.2.2+(1:Int)))/\(∃ d21:(List Int)×(List (Int×Bool))×Int,((True/\True/\True/\True/\True/\(lI ([]:List Dmg))=(lI ([]:List Dmg))/\(d4.2.2+(1:Int))=d21.2.2/\True)/\((hk=hk/\lw=lw/\hd=hd/\rows=rows/\(([]:List SV)=[]))/\((sT (List.set d4.1 (Int.toNat (gD ([]:List Dmg) d4.2.2 (0,(0,(0,(0,false))))).2.1) (gD d4.1 (Int.tmod ((gD ([]:List Dmg) d4.2.2 (0,(0,(0,(0,false))))).2.1+(1:Int)) (lI d4.1)) 0)) (Int.tmod ((gD ([]:List Dmg) d4.2.2 (0,(0,(0,(0,false))))).2.1+(1:Int)) (lI d4.1)) (List.getD d4.1 (Int.toNat (gD ([]:List Dmg) d4.2.2 (0,(0,(0,(0,false))))).2.1) 0))=d21.1/\false=false)/\(d4.2.1=d21.2.1)/\True/\(([]:List Dmg)=([]:List Dmg)/\(List.isEmpty ([]:List Dmg))=(List.isEmpty ([]:List Dmg)))/\True))/\q4 d21)) /\
   ((gD ([]:List Dmg) d4.2.2 (0,(0,(0,(0,false))))).1=(5:Int) ->
    ∀ lK:List Value,lK=lK/\(I64 (d4.2.2+(1:Int)))/\(∃ d23:(List Int)×(List (Int×Bool))×Int,((True/\True/\True/\True/\True/\(lI ([]:List Dmg))=(lI ([]:List Dmg))/\(d4.2.2+(1:Int))=d23.2.2/\True)/\((hk=hk/\lw=lw/\hd=hd/\rows=rows/\(([]:List SV)=[]))/\(d4.1=d23.1/\false=false)/\((Q14 (.i .i64) d4.2.1 (gD ([]:List Dmg) d4.2.2 (0,(0,(0,(0,false))))).2.2.2.1 true)=d23.2.1)/\True/\(([]:List Dmg)=([]:List Dmg)/\(List.isEmpty ([]:List Dmg))=(List.isEmpty ([]:List Dmg)))/\True))/\q4 d23)) /\
   True) /\
  ((decide (d4.2.2<(lI ([]:List Dmg))))=false ->
   (lw.length<=110/\d4.1.length<=110)/\∃ (eG:(List (Int×Bool))×Int) (d260:(List (List UInt8))×Int),((True/\True/\True/\(lI (Zz hk lw hd d4.1))=eG.2/\(0:Int)=d260.2/\True)/\(((Zz hk lw hd d4.1)=d260.1/\(Zz hk lw hd d4.1).isEmpty=(List.isEmpty d260.1))/\(d4.2.1=eG.1)/\True)) /\
   LoopP (λ(d26:(List (List UInt8))×Int) (qo:((List (List UInt8))×Int)->Prop) =>
    ((decide (d26.2<eG.2))=true ->
     (0<=d26.2)/\(d26.2<(List.length d26.1))/\((List.length (gD d26.1 d26.2 []))<=4611686018427387904)/\∃ (aN:(List (List UInt8))×(List (Int×Bool))×Int×Int×Int×(List (Int×Bool))) (d290:(List Int)×(List Nat)),((True/\True/\d26.2=aN.2.2.1/\True/\True/\eG.2=aN.2.2.2.1/\d26.2=(pj4 aN).1/\True/\True)/\((d26.1=aN.1/\(List.isEmpty d26.1)=(List.isEmpty aN.1))/\(eG.1=aN.2.1)/\((List.map (λ(b:UInt8)=>(UInt8.toNat b:Int)) (gD d26.1 d26.2 []))=d290.1/\false=false)/\(eG.1=(pj4 aN).2/\([]:List Nat)=d290.2)/\True)) /\
     LoopP (λ(d29:(List Int)×(List Nat)) (qp:((List Int)×(List Nat))->Prop) =>
      ((∀ r:Nat,r<(List.length (pj4 aN).2)->r∈d29.2) ->
       (0<=aN.2.2.1)/\(aN.2.2.1<(List.length aN.1))/\(I64 ((pj4 aN).1+(1:Int)))/\(∃ d31:(List (List UInt8))×Int,((True/\True/\True/\aN.2.2.2.1=eG.2/\((pj4 aN).1+(1:Int))=d31.2/\True)/\(((sT aN.1 aN.2.2.1 (U4 d29.1))=d31.1/\(List.isEmpty aN.1)=(List.isEmpty d31.1))/\(aN.2.1=eG.1)/\True))/\qo d31)) /\
      (∀ fK:Nat,fK<(List.length (pj4 aN).2)->fK∉d29.2 ->
       ((d29.2++[fK])≠[])/\(0<=(List.getD (pj4 aN).2 (List.getLastD (d29.2++[fK]) 0) (0,false)).1)/\((List.getD (pj4 aN).2 (List.getLastD (d29.2++[fK]) 0) (0,false)).1<(List.length d29.1))/\(∃ d32:(List Int)×(List Nat),((True/\True/\aN.2.2.1=aN.2.2.1/\True/\True/\aN.2.2.2.1=aN.2.2.2.1/\(pj4 aN).1=(pj4 aN).1/\True/\True)/\((aN.1=aN.1/\(List.isEmpty aN.1)=(List.isEmpty aN.1))/\(aN.2.1=aN.2.1)/\((List.set d29.1 (Int.toNat (List.getD (pj4 aN).2 (List.getLastD (d29.2++[fK]) 0) (0,false)).1) (46:Int))=d32.1/\false=false)/\((pj4 aN).2=(pj4 aN).2/\(d29.2++[fK])=d32.2)/\True))/\qp d32))) d290) /\
    ((decide (d26.2<eG.2))=false ->
     (True/\((d26.1=(Ve lw hd rows [])/\(List.isEmpty d26.1)=false)/\True)))) d260)) d40
def JS:Cx:=⟨[(1000001,(.i .i64))],[],3,[],0,[],[],[],[],false,[],[],[],[]⟩
def JO:List (Nat×LoopAnn):=[]
def JA:Cx:=⟨[],[],18,[],0,[],[],[],[],false,[],[],[],[]⟩
def Jz:List (Nat×LoopAnn):=[]
def Jk:Cx:=⟨[],[],36,[],0,[],[],[],[],false,[],[],[],[]⟩
def Jo:List (Nat×LoopAnn):=[(0,⟨Int×Int×Int×Int×Bool×Int×Int×(List Int)×Int×(List Int)×(List (Int×Bool))×Int×Int×Int×Int×Bool×(List (Int×Int×Int×Int×Bool))×Int×Int×Bool×Int×Int×Int×Int×Bool×Int×Int×(List Int)×Int×(List Int)×Int×Int×Int×Int×Bool×(List Value),(List Int)×Int,[2,5,10,11],λe x=>[.lst 18,.box 4000005 0,.val (.i .i64) e.2.2.2.2.2.1,.val (.i .i64) x.2],λe x=>[(18,.slot 2,.lst 3 (.i .i64) x.1 false),(4000005,.slot 5,.cells [.val (.i .i64) e.1,.val (.i .i64) e.2.1,.val (.i .i64) e.2.2.1,.val (.i .i64) e.2.2.2.1,.val .bo e.2.2.2.2.1] (some 37)),(3999999,.key 3999999,.stk [.any,.any,.box 2 0,.any,.any,.lst 18,.map 19,.map 2500001,.any,.box 9 0,.any,.any,.any,.any,.any,.any,.any,.any,.any,.any,.any,.any,.any,.any,.any,.lst 21,.val (.i .i64) e.2.2.2.2.2.2.2.2.2.2.2.2.2.2.2.2.2.1,.val (.i .i64) e.2.2.2.2.2.2.2.2.2.2.2.2.2.2.2.2.2.2.1,.val .bo e.2.2.2.2.2.2.2.2.2.2.2.2.2.2.2.2.2.2.2.1,.any,.agg [.val (.i .i64) e.2.2.2.2.2.2.2.2.2.2.2.2.2.2.2.2.2.2.2.2.1,.val (.i .i64) e.2.2.2.2.2.2.2.2.2.2.2.2.2.2.2.2.2.2.2.2.2.1,.val (.i .i64) e.2.2.2.2.2.2.2.2.2.2.2.2.2.2.2.2.2.2.2.2.2.2.1,.val (.i .i64) e.2.2.2.2.2.2.2.2.2.2.2.2.2.2.2.2.2.2.2.2.2.2.2.1,.val .bo e.2.2.2.2.2.2.2.2.2.2.2.2.2.2.2.2.2.2.2.2.2.2.2.2.1],.map 2500001,.box 9 0,.val (.i .i64) e.2.2.2.2.2.2.2.2.2.2.2.2.2.2.2.2.2.2.2.2.2.2.2.2.2.1,.fn 70 [] [],.agg [.val (.i .i64) e.2.2.2.2.2.2.2.2.2.2.2.2.2.2.2.2.2.2.2.2.2.2.2.2.2.2.1,.val (.list (.i .i64)) e.2.2.2.2.2.2.2.2.2.2.2.2.2.2.2.2.2.2.2.2.2.2.2.2.2.2.2.1,.val (.i .i64) e.2.2.2.2.2.2.2.2.2.2.2.2.2.2.2.2.2.2.2.2.2.2.2.2.2.2.2.2.1,.val (.list (.i .i64)) e.2.2.2.2.2.2.2.2.2.2.2.2.2.2.2.2.2.2.2.2.2.2.2.2.2.2.2.2.2.1],.agg [.val (.i .i64) e.2.2.2.2.2.2.2.2.2.2.2.2.2.2.2.2.2.2.2.2.2.2.2.2.2.2.2.2.2.2.1,.val (.i .i64) e.2.2.2.2.2.2.2.2.2.2.2.2.2.2.2.2.2.2.2.2.2.2.2.2.2.2.2.2.2.2.2.1,.val (.i .i64) e.2.2.2.2.2.2.2.2.2.2.2.2.2.2.2.2.2.2.2.2.2.2.2.2.2.2.2.2.2.2.2.2.1,.val (.i .i64) e.2.2.2.2.2.2.2.2.2.2.2.2.2.2.2.2.2.2.2.2.2.2.2.2.2.2.2.2.2.2.2.2.2.1,.val .bo e.2.2.2.2.2.2.2.2.2.2.2.2.2.2.2.2.2.2.2.2.2.2.2.2.2.2.2.2.2.2.2.2.2.2.1],.lst 18,.map 19,.any,.any,.any,.any,.any,.any,.any,.any,.any,.any,.any,.any,.any,.any,.any,.any,.any,.any,.any,.any,.any,.any,.any,.any,.any,.any,.any,.any,.any,.any,.any,.any,.any,.any,.any,.any,.any,.any,.any,.any] e.2.2.2.2.2.2.2.2.2.2.2.2.2.2.2.2.2.2.2.2.2.2.2.2.2.2.2.2.2.2.2.2.2.2.2),(2,.key 2,.cells [.val (.i .i64) e.2.2.2.2.2.2.1,.val (.list (.i .i64)) e.2.2.2.2.2.2.2.1,.val (.i .i64) e.2.2.2.2.2.2.2.2.1,.val (.list (.i .i64)) e.2.2.2.2.2.2.2.2.2.1] (some 68)),(19,.key 19,.map (.i .i64) .bo e.2.2.2.2.2.2.2.2.2.2.1),(2500001,.key 2500001,.fm .i64 [(1,69),(2,70),(3,71),(4,72),(5,73)]),(9,.key 9,.cells [.val (.i .i64) e.2.2.2.2.2.2.2.2.2.2.2.1,.val (.i .i64) e.2.2.2.2.2.2.2.2.2.2.2.2.1,.val (.i .i64) e.2.2.2.2.2.2.2.2.2.2.2.2.2.1,.val (.i .i64) e.2.2.2.2.2.2.2.2.2.2.2.2.2.2.1,.val .bo e.2.2.2.2.2.2.2.2.2.2.2.2.2.2.2.1] (some 37)),(21,.key 21,.lst 37 (.pair (.i .i64) (.pair (.i .i64) (.pair (.i .i64) (.pair (.i .i64) .bo)))) e.2.2.2.2.2.2.2.2.2.2.2.2.2.2.2.2.1 (List.isEmpty e.2.2.2.2.2.2.2.2.2.2.2.2.2.2.2.2.1))]⟩)]
def Jr:Cx:=⟨[],[],34,[],0,[],[],[],[],false,[],[],[],[]⟩
def Jv:List (Nat×LoopAnn):=[(0,⟨(List Int)×Int×Int×Int×Int×Bool×Int×Int×(List Int)×Int×(List Int)×(List (Int×Bool))×Int×Int×Int×Int×Bool×(List (Int×Int×Int×Int×Bool))×Int×Int×Bool×Int×Int×Int×Int×Bool×Int×Int×(List Int)×Int×(List Int)×Int×Int×Int×Int×Bool×(List Value),Int×Int,[2,5,8,13,14],λe x=>[.lst 18,.box 4000005 0,.val (.i .i64) x.1,.val (.i .i64) e.2.2.2.2.2.2.1,.val (.i .i64) x.2],λe x=>[(18,.slot 2,.lst 3 (.i .i64) e.1 false),(4000005,.slot 5,.cells [.val (.i .i64) e.2.1,.val (.i .i64) e.2.2.1,.val (.i .i64) e.2.2.2.1,.val (.i .i64) e.2.2.2.2.1,.val .bo e.2.2.2.2.2.1] (some 37)),(3999999,.key 3999999,.stk [.any,.any,.box 2 0,.any,.any,.lst 18,.map 19,.map 2500001,.any,.box 9 0,.any,.any,.any,.any,.any,.any,.any,.any,.any,.any,.any,.any,.any,.any,.any,.lst 21,.val (.i .i64) e.2.2.2.2.2.2.2.2.2.2.2.2.2.2.2.2.2.2.1,.val (.i .i64) e.2.2.2.2.2.2.2.2.2.2.2.2.2.2.2.2.2.2.2.1,.val .bo e.2.2.2.2.2.2.2.2.2.2.2.2.2.2.2.2.2.2.2.2.1,.any,.agg [.val (.i .i64) e.2.2.2.2.2.2.2.2.2.2.2.2.2.2.2.2.2.2.2.2.2.1,.val (.i .i64) e.2.2.2.2.2.2.2.2.2.2.2.2.2.2.2.2.2.2.2.2.2.2.1,.val (.i .i64) e.2.2.2.2.2.2.2.2.2.2.2.2.2.2.2.2.2.2.2.2.2.2.2.1,.val (.i .i64) e.2.2.2.2.2.2.2.2.2.2.2.2.2.2.2.2.2.2.2.2.2.2.2.2.1,.val .bo e.2.2.2.2.2.2.2.2.2.2.2.2.2.2.2.2.2.2.2.2.2.2.2.2.2.1],.map 2500001,.box 9 0,.val (.i .i64) e.2.2.2.2.2.2.2.2.2.2.2.2.2.2.2.2.2.2.2.2.2.2.2.2.2.2.1,.fn 71 [] [],.agg [.val (.i .i64) e.2.2.2.2.2.2.2.2.2.2.2.2.2.2.2.2.2.2.2.2.2.2.2.2.2.2.2.1,.val (.list (.i .i64)) e.2.2.2.2.2.2.2.2.2.2.2.2.2.2.2.2.2.2.2.2.2.2.2.2.2.2.2.2.1,.val (.i .i64) e.2.2.2.2.2.2.2.2.2.2.2.2.2.2.2.2.2.2.2.2.2.2.2.2.2.2.2.2.2.1,.val (.list (.i .i64)) e.2.2.2.2.2.2.2.2.2.2.2.2.2.2.2.2.2.2.2.2.2.2.2.2.2.2.2.2.2.2.1],.agg [.val (.i .i64) e.2.2.2.2.2.2.2.2.2.2.2.2.2.2.2.2.2.2.2.2.2.2.2.2.2.2.2.2.2.2.2.1,.val (.i .i64) e.2.2.2.2.2.2.2.2.2.2.2.2.2.2.2.2.2.2.2.2.2.2.2.2.2.2.2.2.2.2.2.2.1,.val (.i .i64) e.2.2.2.2.2.2.2.2.2.2.2.2.2.2.2.2.2.2.2.2.2.2.2.2.2.2.2.2.2.2.2.2.2.1,.val (.i .i64) e.2.2.2.2.2.2.2.2.2.2.2.2.2.2.2.2.2.2.2.2.2.2.2.2.2.2.2.2.2.2.2.2.2.2.1,.val .bo e.2.2.2.2.2.2.2.2.2.2.2.2.2.2.2.2.2.2.2.2.2.2.2.2.2.2.2.2.2.2.2.2.2.2.2.1],.lst 18,.map 19,.any,.any,.any,.any,.any,.any,.any,.any,.any,.any,.any,.any,.any,.any,.any,.any,.any,.any,.any,.any,.any,.any,.any,.any,.any,.any,.any,.any,.any,.any,.any,.any,.any,.any,.any,.any,.any,.any,.any,.any] e.2.2.2.2.2.2.2.2.2.2.2.2.2.2.2.2.2.2.2.2.2.2.2.2.2.2.2.2.2.2.2.2.2.2.2.2),(2,.key 2,.cells [.val (.i .i64) e.2.2.2.2.2.2.2.1,.val (.list (.i .i64)) e.2.2.2.2.2.2.2.2.1,.val (.i .i64) e.2.2.2.2.2.2.2.2.2.1,.val (.list (.i .i64)) e.2.2.2.2.2.2.2.2.2.2.1] (some 68)),(19,.key 19,.map (.i .i64) .bo e.2.2.2.2.2.2.2.2.2.2.2.1),(2500001,.key 2500001,.fm .i64 [(1,69),(2,70),(3,71),(4,72),(5,73)]),(9,.key 9,.cells [.val (.i .i64) e.2.2.2.2.2.2.2.2.2.2.2.2.1,.val (.i .i64) e.2.2.2.2.2.2.2.2.2.2.2.2.2.1,.val (.i .i64) e.2.2.2.2.2.2.2.2.2.2.2.2.2.2.1,.val (.i .i64) e.2.2.2.2.2.2.2.2.2.2.2.2.2.2.2.1,.val .bo e.2.2.2.2.2.2.2.2.2.2.2.2.2.2.2.2.1] (some 37)),(21,.key 21,.lst 37 (.pair (.i .i64) (.pair (.i .i64) (.pair (.i .i64) (.pair (.i .i64) .bo)))) e.2.2.2.2.2.2.2.2.2.2.2.2.2.2.2.2.2.1 (List.isEmpty e.2.2.2.2.2.2.2.2.2.2.2.2.2.2.2.2.2.1))]⟩)]
def Jy:Cx:=⟨[],[],35,[],0,[],[],[],[],false,[],[],[],[]⟩
def JB:List (Nat×LoopAnn):=[]
def Jw:Cx:=⟨[],[],11,[],0,[],[],[],[],false,[],[],[],[]⟩
def Jm:List (Nat×LoopAnn):=[]
def VM:Cx:=⟨[(1000019,(.pair (.i .i64) .bo))],[(43,JE),(44,CSp.or Qn Qg),(46,J1),(31,Ma)],79,[4002117,4054019,3000066],0,[(45,Qc),(48,AX JS (λ_=>JO) c48 [.tmp 0] 3),(69,AX JA (λ_=>Jz) c69 [] 18),(70,AX Jk (λ_=>Jo) c70 [] 36),(71,AX Jr (λ_=>Jv) c71 [] 34),(72,AX Jy (λ_=>JB) c72 [] 35),(73,AX Jw (λ_=>Jm) c73 [] 11)],[],[],[],false,[],[],[33,54,66],[]⟩
def BW (hk:Int) (lw:List Int) (hd:Int) (rows:List Int):List (Nat×LoopAnn):=[(0,⟨Unit,(List Int)×(List (Int×Bool))×Int,[2,5,6,7,25,26,27],λe x=>[.box 2 0,.lst 18,.map 19,.map 2500001,.lst 21,.val (.i .i64) (((List.length ([]:List Dmg)):Nat):Int),.val (.i .i64) x.2.2],λe x=>[(2,.slot 2,.cells [.val (.i .i64) hk,.val (.list (.i .i64)) lw,.val (.i .i64) hd,.val (.list (.i .i64)) rows] (some 68)),(18,.slot 5,.lst 3 (.i .i64) x.1 false),(19,.slot 6,.map (.i .i64) .bo x.2.1),(2500001,.slot 7,.fm .i64 [(1,69),(2,70),(3,71),(4,72),(5,73)]),(21,.slot 25,.lst 37 (.pair (.i .i64) (.pair (.i .i64) (.pair (.i .i64) (.pair (.i .i64) .bo)))) ([]:List Dmg) (List.isEmpty ([]:List Dmg)))]⟩),
 (2,⟨(List (Int×Bool))×Int,(List (List UInt8))×Int,[4,6,54,55,56],λe x=>[.lst 51,.map 19,.lst 51,.val (.i .i64) e.2,.val (.i .i64) x.2],λe x=>[(51,.slot 4,.lst 9 .st x.1 (List.isEmpty x.1)),(19,.slot 6,.rmap (.i .i64) .bo e.1)]⟩),
 (4,⟨(List (List UInt8))×(List (Int×Bool))×Int×Int×Int×(List (Int×Bool)),(List Int)×(List Nat),[4,6,10,12,54,55,56,64],λe x=>[.lst 51,.map 19,.val (.i .i64) e.2.2.1,.lst 62,.lst 51,.val (.i .i64) e.2.2.2.1,.val (.i .i64) e.2.2.2.2.1,.box 64 0],λe x=>[(51,.slot 4,.lst 9 .st e.1 (List.isEmpty e.1)),(19,.slot 6,.rmap (.i .i64) .bo e.2.1),(62,.slot 12,.lst 5 (.i .u8) x.1 false),(64,.slot 64,.iter (.i .i64) .bo e.2.2.2.2.2 x.2)]⟩)]
theorem Bk (d:(Int×List Int×Int×List Int)×Unit):gwp (VM) (BW d.1.1 d.1.2.1 d.1.2.2.1 d.1.2.2.2) c24 0 (YI [.tmp 4] (V1 d) (V4 d)) (Qv 79 (AL.can U1 d))=Xq d.1.1 d.1.2.1 d.1.2.2.1 d.1.2.2.2:=by kernel_rfl
abbrev BS:Prop:=OkC Tryz.prog 24 XK
theorem Bl (h:∀ (hk:Int) (lw:List Int) (hd:Int) (rows:List Int),(Qb hk lw hd rows=0/\lw.length<=110/\rows.length<=110)->Xq hk lw hd rows):OkC Tryz.prog 24 XK :=
 QB Q7t mixed (C:=VM) (V:=λ(d:(Int×List Int×Int×List Int)×Unit)=>Xq d.1.1 d.1.2.1 d.1.2.2.1 d.1.2.2.2) ⟨(.cons Yo (.cons (OkC.or Zc QW) (.cons XY (.cons PT .nil)))),(XsOk.cons QF (XsOk.cons (Wh Q8e mixed (C:=JS) ⟨.nil,XsOk.nil,ItsOk.nil,YlOk.nil,IysOk.nil,XfOk.nil⟩ (λ_=>JO)) (XsOk.cons (Wh Q8q mixed (C:=JA) ⟨.nil,XsOk.nil,ItsOk.nil,YlOk.nil,IysOk.nil,XfOk.nil⟩ (λ_=>Jz)) (XsOk.cons (Wh Q76 mixed (C:=Jk) ⟨.nil,XsOk.nil,ItsOk.nil,YlOk.nil,IysOk.nil,XfOk.nil⟩ (λ_=>Jo)) (XsOk.cons (Wh Q8b mixed (C:=Jr) ⟨.nil,XsOk.nil,ItsOk.nil,YlOk.nil,IysOk.nil,XfOk.nil⟩ (λ_=>Jv)) (XsOk.cons (Wh Q7n mixed (C:=Jy) ⟨.nil,XsOk.nil,ItsOk.nil,YlOk.nil,IysOk.nil,XfOk.nil⟩ (λ_=>JB)) (XsOk.cons (Wh Q8h mixed (C:=Jw) ⟨.nil,XsOk.nil,ItsOk.nil,YlOk.nil,IysOk.nil,XfOk.nil⟩ (λ_=>Jm)) XsOk.nil))))))),ItsOk.nil,YlOk.nil,IysOk.nil,XfOk.nil⟩ (Bk) λd hp=>h d.1.1 d.1.2.1 d.1.2.2.1 d.1.2.2.2 hp
def Ya:AL ((Int×List Int×Int×List Int)×List (Int×Int×Int×Int×Bool)):=(.cons (.agg (.cons (.k (.i .i64)) (.cons (.k (.list (.i .i64))) (.cons (.k (.i .i64)) (.one (.k (.list (.i .i64)))))))) (.one (.k (.list (.pair (.i .i64) (.pair (.i .i64) (.pair (.i .i64) (.pair (.i .i64) .bo))))))))
def UL (d:(Int×List Int×Int×List Int)×List (Int×Int×Int×Int×Bool)):Prop:=Qb d.1.1 d.1.2.1 d.1.2.2.1 d.1.2.2.2=0/\d.1.2.1.length<=110/\d.1.2.2.2.length<=110/\d.2.length=1/\∀ z∈d.2,Ho d.1.2.2.1 d.1.2.2.2 d.1.2.1 z=true
def WU (d:(Int×List Int×Int×List Int)×List (Int×Int×Int×Int×Bool)):SV:=.lst 0
def WL (d:(Int×List Int×Int×List Int)×List (Int×Int×Int×Int×Bool)):List OB:=[.lst 9 .st (Ve d.1.2.1 d.1.2.2.1 d.1.2.2.2 d.2) false]
def J7:CSp:=XU Ya UL WU WL
def ZR (hk:Int) (lw:List Int) (hd:Int) (rows:List Int) (ds:List (Int×Int×Int×Int×Bool)):Prop :=
 (rows≠[]/\rows.length<=110)/\(ds≠[]/\ds.length<=110)/\(ds.length<=1/\(∀ x∈ds,∀ y∈ds,(λ(x1:(Int×Int×Int×Int×Bool)×(Int×Int×Int×Int×Bool))=>True) (x,y)))/\∀ w1:List Value,w1=w1/\∃ (e4:Unit) (d40:(List Int)×(List (Int×Bool))×Int),((True/\True/\True/\True/\True/\(lI ds)=(lI ds)/\(0:Int)=d40.2.2/\True)/\((hk=hk/\lw=lw/\hd=hd/\rows=rows/\(([]:List SV)=[]))/\(rows=d40.1/\false=false)/\(([]:List (Int×Bool))=d40.2.1)/\True/\(ds=ds/\false=false)/\True)) /\
 LoopP (λ(d4:(List Int)×(List (Int×Bool))×Int) (q4:((List Int)×(List (Int×Bool))×Int)->Prop) =>
  ((decide (d4.2.2<(lI ds)))=true ->
   (0<=d4.2.2)/\(d4.2.2<(List.length ds))/\(1<=(gD ds d4.2.2 (0,(0,(0,(0,false))))).1)/\((gD ds d4.2.2 (0,(0,(0,(0,false))))).1<=((5:Nat):Int)) /\
   ((gD ds d4.2.2 (0,(0,(0,(0,false))))).1=(1:Int) ->
    ∀ w5:List Value,(0<=(gD ds d4.2.2 (0,(0,(0,(0,false))))).2.1)/\((gD ds d4.2.2 (0,(0,(0,(0,false))))).2.1<(List.length d4.1))/\(0<=(gD ds d4.2.2 (0,(0,(0,(0,false))))).2.2.1)/\(I64 (WX .i64 (1:Int) (gD ds d4.2.2 (0,(0,(0,(0,false))))).2.2.1))/\(0<=(gD ds d4.2.2 (0,(0,(0,(0,false))))).2.1)/\((gD ds d4.2.2 (0,(0,(0,(0,false))))).2.1<(List.length d4.1))/\w5=w5/\(I64 (d4.2.2+(1:Int)))/\(∃ d6:(List Int)×(List (Int×Bool))×Int,((True/\True/\True/\True/\True/\(lI ds)=(lI ds)/\(d4.2.2+(1:Int))=d6.2.2/\True)/\((hk=hk/\lw=lw/\hd=hd/\rows=rows/\(([]:List SV)=[]))/\((List.set d4.1 (Int.toNat (gD ds d4.2.2 (0,(0,(0,(0,false))))).2.1) (Q1 .xor .i64 (List.getD d4.1 (Int.toNat (gD ds d4.2.2 (0,(0,(0,(0,false))))).2.1) 0) (WX .i64 (1:Int) (gD ds d4.2.2 (0,(0,(0,(0,false))))).2.2.1)))=d6.1/\false=false)/\(d4.2.1=d6.2.1)/\True/\(ds=ds/\false=false)/\True))/\q4 d6)) /\
   ((gD ds d4.2.2 (0,(0,(0,(0,false))))).1=(2:Int) ->
    ∀ w7:List Value,∃ (ae:Int×Int×Int×Int×Bool×Int×Int×(List Int)×Int×(List Int)×(List (Int×Bool))×Int×Int×Int×Int×Bool×(List (Int×Int×Int×Int×Bool))×Int×Int×Bool×Int×Int×Int×Int×Bool×Int×Int×(List Int)×Int×(List Int)×Int×Int×Int×Int×Bool×(List Value)) (d100:(List Int)×Int),((True/\True/\(lI d4.1)=(pj4 ae).2.1/\(0:Int)=d100.2/\True)/\((d4.1=d100.1/\false=false)/\((gD ds d4.2.2 (0,(0,(0,(0,false))))).1=ae.1/\(gD ds d4.2.2 (0,(0,(0,(0,false))))).2.1=ae.2.1/\(gD ds d4.2.2 (0,(0,(0,(0,false))))).2.2.1=ae.2.2.1/\(gD ds d4.2.2 (0,(0,(0,(0,false))))).2.2.2.1=ae.2.2.2.1/\(gD ds d4.2.2 (0,(0,(0,(0,false))))).2.2.2.2=(pj4 ae).1/\(([]:List SV)=[]))/\((Q2 (Q2 ae)).2.2.2=w7/\(True/\True/\True/\True/\True/\True/\True/\True/\True/\True/\True/\True/\True/\True/\True/\True/\True/\True/\True/\True/\True/\True/\True/\True/\True/\True/\(lI ds)=(Q2 ae).2.1/\d4.2.2=(Q2 ae).2.2.1/\(decide (d4.2.2<(lI ds)))=(Q2 ae).2.2.2.1/\True/\((gD ds d4.2.2 (0,(0,(0,(0,false))))).1=(pj4 (Q2 ae)).1/\(gD ds d4.2.2 (0,(0,(0,(0,false))))).2.1=(pj4 (Q2 ae)).2.1/\(gD ds d4.2.2 (0,(0,(0,(0,false))))).2.2.1=(pj4 (Q2 ae)).2.2.1/\(gD ds d4.2.2 (0,(0,(0,(0,false))))).2.2.2.1=(pj4 (Q2 ae)).2.2.2.1/\(gD ds d4.2.2 (0,(0,(0,(0,false))))).2.2.2.2=(pj8 (Q2 ae)).1/\(([]:List SV)=[]))/\True/\True/\(2:Int)=(pj8 (Q2 ae)).2.1/\(((([]:List SV)=[]))/\((([]:List SV)=[])))/\(hk=(pj8 (Q2 ae)).2.2.1/\lw=(pj8 (Q2 ae)).2.2.2.1/\hd=(pj4 (pj8 (Q2 ae))).1/\rows=(pj4 (pj8 (Q2 ae))).2.1/\(([]:List SV)=[]))/\((gD ds d4.2.2 (0,(0,(0,(0,false))))).1=(pj4 (pj8 (Q2 ae))).2.2.1/\(gD ds d4.2.2 (0,(0,(0,(0,false))))).2.1=(pj4 (pj8 (Q2 ae))).2.2.2.1/\(gD ds d4.2.2 (0,(0,(0,(0,false))))).2.2.1=(Q2 (Q2 ae)).1/\(gD ds d4.2.2 (0,(0,(0,(0,false))))).2.2.2.1=(Q2 (Q2 ae)).2.1/\(gD ds d4.2.2 (0,(0,(0,(0,false))))).2.2.2.2=(Q2 (Q2 ae)).2.2.1/\(([]:List SV)=[]))/\True/\True/\True/\True/\True/\True/\True/\True/\True/\True/\True/\True/\True/\True/\True/\True/\True/\True/\True/\True/\True/\True/\True/\True/\True/\True/\True/\True/\True/\True/\True/\True/\True/\True/\True/\True/\True/\True/\True/\True/\True/\True/\(([]:List SV)=[])))/\(hk=(pj4 ae).2.2.1/\lw=(pj4 ae).2.2.2.1/\hd=(pj8 ae).1/\rows=(pj8 ae).2.1/\(([]:List SV)=[]))/\(d4.2.1=(pj8 ae).2.2.1)/\True/\((gD ds d4.2.2 (0,(0,(0,(0,false))))).1=(pj8 ae).2.2.2.1/\(gD ds d4.2.2 (0,(0,(0,(0,false))))).2.1=(pj4 (pj8 ae)).1/\(gD ds d4.2.2 (0,(0,(0,(0,false))))).2.2.1=(pj4 (pj8 ae)).2.1/\(gD ds d4.2.2 (0,(0,(0,(0,false))))).2.2.2.1=(pj4 (pj8 ae)).2.2.1/\(gD ds d4.2.2 (0,(0,(0,(0,false))))).2.2.2.2=(pj4 (pj8 ae)).2.2.2.1/\(([]:List SV)=[]))/\(ds=(Q2 ae).1/\false=false)/\True)) /\
    LoopP (λ(d10:(List Int)×Int) (lH:((List Int)×Int)->Prop) =>
     ((decide (d10.2<(pj4 ae).2.1))=true ->
      (0<=d10.2)/\(d10.2<(List.length d10.1))/\(0<=ae.2.2.1)/\(I64 (WX .i64 (1:Int) ae.2.2.1))/\(0<=d10.2)/\(d10.2<(List.length d10.1))/\((!(pj4 ae).1)=true ->
       (0<=d10.2)/\(d10.2<(List.length (sT d10.1 d10.2 (Q1 .or .i64 (gD d10.1 d10.2 0) (WX .i64 (1:Int) ae.2.2.1)))))/\(0<=ae.2.2.1)/\(I64 (WX .i64 (1:Int) ae.2.2.1))/\(0<=d10.2)/\(d10.2<(List.length (sT d10.1 d10.2 (Q1 .or .i64 (gD d10.1 d10.2 0) (WX .i64 (1:Int) ae.2.2.1)))))/\(I64 (d10.2+(1:Int)))/\(∃ d11:(List Int)×Int,((True/\True/\(pj4 ae).2.1=(pj4 ae).2.1/\(d10.2+(1:Int))=d11.2/\True)/\(((sT (sT d10.1 d10.2 (Q1 .or .i64 (gD d10.1 d10.2 0) (WX .i64 (1:Int) ae.2.2.1))) d10.2 (Q1 .xor .i64 (gD (sT d10.1 d10.2 (Q1 .or .i64 (gD d10.1 d10.2 0) (WX .i64 (1:Int) ae.2.2.1))) d10.2 0) (WX .i64 (1:Int) ae.2.2.1)))=d11.1/\false=false)/\(ae.1=ae.1/\ae.2.1=ae.2.1/\ae.2.2.1=ae.2.2.1/\ae.2.2.2.1=ae.2.2.2.1/\(pj4 ae).1=(pj4 ae).1/\(([]:List SV)=[]))/\((Q2 (Q2 ae)).2.2.2=(Q2 (Q2 ae)).2.2.2/\(True/\True/\True/\True/\True/\True/\True/\True/\True/\True/\True/\True/\True/\True/\True/\True/\True/\True/\True/\True/\True/\True/\True/\True/\True/\True/\(Q2 ae).2.1=(Q2 ae).2.1/\(Q2 ae).2.2.1=(Q2 ae).2.2.1/\(Q2 ae).2.2.2.1=(Q2 ae).2.2.2.1/\True/\((pj4 (Q2 ae)).1=(pj4 (Q2 ae)).1/\(pj4 (Q2 ae)).2.1=(pj4 (Q2 ae)).2.1/\(pj4 (Q2 ae)).2.2.1=(pj4 (Q2 ae)).2.2.1/\(pj4 (Q2 ae)).2.2.2.1=(pj4 (Q2 ae)).2.2.2.1/\(pj8 (Q2 ae)).1=(pj8 (Q2 ae)).1/\(([]:List SV)=[]))/\True/\True/\(pj8 (Q2 ae)).2.1=(pj8 (Q2 ae)).2.1/\(((([]:List SV)=[]))/\((([]:List SV)=[])))/\((pj8 (Q2 ae)).2.2.1=(pj8 (Q2 ae)).2.2.1/\(pj8 (Q2 ae)).2.2.2.1=(pj8 (Q2 ae)).2.2.2.1/\(pj4 (pj8 (Q2 ae))).1=(pj4 (pj8 (Q2 ae))).1/\(pj4 (pj8 (Q2 ae))).2.1=(pj4 (pj8 (Q2 ae))).2.1/\(([]:List SV)=[]))/\((pj4 (pj8 (Q2 ae))).2.2.1=(pj4 (pj8 (Q2 ae))).2.2.1/\(pj4 (pj8 (Q2 ae))).2.2.2.1=(pj4 (pj8 (Q2 ae))).2.2.2.1/\(Q2 (Q2 ae)).1=(Q2 (Q2 ae)).1/\(Q2 (Q2 ae)).2.1=(Q2 (Q2 ae)).2.1/\(Q2 (Q2 ae)).2.2.1=(Q2 (Q2 ae)).2.2.1/\(([]:List SV)=[]))/\True/\True/\True/\True/\True/\True/\True/\True/\True/\True/\True/\True/\True/\True/\True/\True/\True/\True/\True/\True/\True/\True/\True/\True/\True/\True/\True/\True/\True/\True/\True/\True/\True/\True/\True/\True/\True/\True/\True/\True/\True/\True/\(([]:List SV)=[])))/\((pj4 ae).2.2.1=(pj4 ae).2.2.1/\(pj4 ae).2.2.2.1=(pj4 ae).2.2.2.1/\(pj8 ae).1=(pj8 ae).1/\(pj8 ae).2.1=(pj8 ae).2.1/\(([]:List SV)=[]))/\((pj8 ae).2.2.1=(pj8 ae).2.2.1)/\True/\((pj8 ae).2.2.2.1=(pj8 ae).2.2.2.1/\(pj4 (pj8 ae)).1=(pj4 (pj8 ae)).1/\(pj4 (pj8 ae)).2.1=(pj4 (pj8 ae)).2.1/\(pj4 (pj8 ae)).2.2.1=(pj4 (pj8 ae)).2.2.1/\(pj4 (pj8 ae)).2.2.2.1=(pj4 (pj8 ae)).2.2.2.1/\(([]:List SV)=[]))/\((Q2 ae).1=(Q2 ae).1/\false=false)/\True))/\lH d11)) /\
      ((!(pj4 ae).1)=false ->
       (I64 (d10.2+(1:Int)))/\(∃ d12:(List Int)×Int,((True/\True/\(pj4 ae).2.1=(pj4 ae).2.1/\(d10.2+(1:Int))=d12.2/\True)/\(((sT d10.1 d10.2 (Q1 .or .i64 (gD d10.1 d10.2 0) (WX .i64 (1:Int) ae.2.2.1)))=d12.1/\false=false)/\(ae.1=ae.1/\ae.2.1=ae.2.1/\ae.2.2.1=ae.2.2.1/\ae.2.2.2.1=ae.2.2.2.1/\(pj4 ae).1=(pj4 ae).1/\(([]:List SV)=[]))/\((Q2 (Q2 ae)).2.2.2=(Q2 (Q2 ae)).2.2.2/\(True/\True/\True/\True/\True/\True/\True/\True/\True/\True/\True/\True/\True/\True/\True/\True/\True/\True/\True/\True/\True/\True/\True/\True/\True/\True/\(Q2 ae).2.1=(Q2 ae).2.1/\(Q2 ae).2.2.1=(Q2 ae).2.2.1/\(Q2 ae).2.2.2.1=(Q2 ae).2.2.2.1/\True/\((pj4 (Q2 ae)).1=(pj4 (Q2 ae)).1/\(pj4 (Q2 ae)).2.1=(pj4 (Q2 ae)).2.1/\(pj4 (Q2 ae)).2.2.1=(pj4 (Q2 ae)).2.2.1/\(pj4 (Q2 ae)).2.2.2.1=(pj4 (Q2 ae)).2.2.2.1/\(pj8 (Q2 ae)).1=(pj8 (Q2 ae)).1/\(([]:List SV)=[]))/\True/\True/\(pj8 (Q2 ae)).2.1=(pj8 (Q2 ae)).2.1/\(((([]:List SV)=[]))/\((([]:List SV)=[])))/\((pj8 (Q2 ae)).2.2.1=(pj8 (Q2 ae)).2.2.1/\(pj8 (Q2 ae)).2.2.2.1=(pj8 (Q2 ae)).2.2.2.1/\(pj4 (pj8 (Q2 ae))).1=(pj4 (pj8 (Q2 ae))).1/\(pj4 (pj8 (Q2 ae))).2.1=(pj4 (pj8 (Q2 ae))).2.1/\(([]:List SV)=[]))/\((pj4 (pj8 (Q2 ae))).2.2.1=(pj4 (pj8 (Q2 ae))).2.2.1/\(pj4 (pj8 (Q2 ae))).2.2.2.1=(pj4 (pj8 (Q2 ae))).2.2.2.1/\(Q2 (Q2 ae)).1=(Q2 (Q2 ae)).1/\(Q2 (Q2 ae)).2.1=(Q2 (Q2 ae)).2.1/\(Q2 (Q2 ae)).2.2.1=(Q2 (Q2 ae)).2.2.1/\(([]:List SV)=[]))/\True/\True/\True/\True/\True/\True/\True/\True/\True/\True/\True/\True/\True/\True/\True/\True/\True/\True/\True/\True/\True/\True/\True/\True/\True/\True/\True/\True/\True/\True/\True/\True/\True/\True/\True/\True/\True/\True/\True/\True/\True/\True/\(([]:List SV)=[])))/\((pj4 ae).2.2.1=(pj4 ae).2.2.1/\(pj4 ae).2.2.2.1=(pj4 ae).2.2.2.1/\(pj8 ae).1=(pj8 ae).1/\(pj8 ae).2.1=(pj8 ae).2.1/\(([]:List SV)=[]))/\((pj8 ae).2.2.1=(pj8 ae).2.2.1)/\True/\((pj8 ae).2.2.2.1=(pj8 ae).2.2.2.1/\(pj4 (pj8 ae)).1=(pj4 (pj8 ae)).1/\(pj4 (pj8 ae)).2.1=(pj4 (pj8 ae)).2.1/\(pj4 (pj8 ae)).2.2.1=(pj4 (pj8 ae)).2.2.1/\(pj4 (pj8 ae)).2.2.2.1=(pj4 (pj8 ae)).2.2.2.1/\(([]:List SV)=[]))/\((Q2 ae).1=(Q2 ae).1/\false=false)/\True))/\lH d12))) /\
     ((decide (d10.2<(pj4 ae).2.1))=false ->
      (Q2 (Q2 ae)).2.2.2=w7/\(I64 ((Q2 ae).2.2.1+(1:Int)))/\(∃ d13:(List Int)×(List (Int×Bool))×Int,((True/\True/\True/\True/\True/\(Q2 ae).2.1=(lI ds)/\((Q2 ae).2.2.1+(1:Int))=d13.2.2/\True)/\(((pj4 ae).2.2.1=hk/\(pj4 ae).2.2.2.1=lw/\(pj8 ae).1=hd/\(pj8 ae).2.1=rows/\(([]:List SV)=[]))/\(d10.1=d13.1/\false=false)/\((pj8 ae).2.2.1=d13.2.1)/\True/\((Q2 ae).1=ds/\false=false)/\True))/\q4 d13))) d100) /\
   ((gD ds d4.2.2 (0,(0,(0,(0,false))))).1=(3:Int) ->
    ∀ kX:List Value,∃ (ah:(List Int)×Int×Int×Int×Int×Bool×Int×Int×(List Int)×Int×(List Int)×(List (Int×Bool))×Int×Int×Int×Int×Bool×(List (Int×Int×Int×Int×Bool))×Int×Int×Bool×Int×Int×Int×Int×Bool×Int×Int×(List Int)×Int×(List Int)×Int×Int×Int×Int×Bool×(List Value)) (d170:Int×Int),((True/\True/\(0:Int)=d170.1/\hd=(pj4 ah).2.2.1/\(0:Int)=d170.2/\True)/\((d4.1=ah.1/\false=false)/\((gD ds d4.2.2 (0,(0,(0,(0,false))))).1=ah.2.1/\(gD ds d4.2.2 (0,(0,(0,(0,false))))).2.1=ah.2.2.1/\(gD ds d4.2.2 (0,(0,(0,(0,false))))).2.2.1=ah.2.2.2.1/\(gD ds d4.2.2 (0,(0,(0,(0,false))))).2.2.2.1=(pj4 ah).1/\(gD ds d4.2.2 (0,(0,(0,(0,false))))).2.2.2.2=(pj4 ah).2.1/\(([]:List SV)=[]))/\((pj4 (Q2 (Q2 ah)))=kX/\(True/\True/\True/\True/\True/\True/\True/\True/\True/\True/\True/\True/\True/\True/\True/\True/\True/\True/\True/\True/\True/\True/\True/\True/\True/\True/\(lI ds)=(Q2 ah).2.2.1/\d4.2.2=(Q2 ah).2.2.2.1/\(decide (d4.2.2<(lI ds)))=(pj4 (Q2 ah)).1/\True/\((gD ds d4.2.2 (0,(0,(0,(0,false))))).1=(pj4 (Q2 ah)).2.1/\(gD ds d4.2.2 (0,(0,(0,(0,false))))).2.1=(pj4 (Q2 ah)).2.2.1/\(gD ds d4.2.2 (0,(0,(0,(0,false))))).2.2.1=(pj4 (Q2 ah)).2.2.2.1/\(gD ds d4.2.2 (0,(0,(0,(0,false))))).2.2.2.1=(pj8 (Q2 ah)).1/\(gD ds d4.2.2 (0,(0,(0,(0,false))))).2.2.2.2=(pj8 (Q2 ah)).2.1/\(([]:List SV)=[]))/\True/\True/\(3:Int)=(pj8 (Q2 ah)).2.2.1/\(((([]:List SV)=[]))/\((([]:List SV)=[])))/\(hk=(pj8 (Q2 ah)).2.2.2.1/\lw=(pj4 (pj8 (Q2 ah))).1/\hd=(pj4 (pj8 (Q2 ah))).2.1/\rows=(pj4 (pj8 (Q2 ah))).2.2.1/\(([]:List SV)=[]))/\((gD ds d4.2.2 (0,(0,(0,(0,false))))).1=(pj4 (pj8 (Q2 ah))).2.2.2.1/\(gD ds d4.2.2 (0,(0,(0,(0,false))))).2.1=(Q2 (Q2 ah)).1/\(gD ds d4.2.2 (0,(0,(0,(0,false))))).2.2.1=(Q2 (Q2 ah)).2.1/\(gD ds d4.2.2 (0,(0,(0,(0,false))))).2.2.2.1=(Q2 (Q2 ah)).2.2.1/\(gD ds d4.2.2 (0,(0,(0,(0,false))))).2.2.2.2=(Q2 (Q2 ah)).2.2.2.1/\(([]:List SV)=[]))/\True/\True/\True/\True/\True/\True/\True/\True/\True/\True/\True/\True/\True/\True/\True/\True/\True/\True/\True/\True/\True/\True/\True/\True/\True/\True/\True/\True/\True/\True/\True/\True/\True/\True/\True/\True/\True/\True/\True/\True/\True/\True/\(([]:List SV)=[])))/\(hk=(pj4 ah).2.2.2.1/\lw=(pj8 ah).1/\hd=(pj8 ah).2.1/\rows=(pj8 ah).2.2.1/\(([]:List SV)=[]))/\(d4.2.1=(pj8 ah).2.2.2.1)/\True/\((gD ds d4.2.2 (0,(0,(0,(0,false))))).1=(pj4 (pj8 ah)).1/\(gD ds d4.2.2 (0,(0,(0,(0,false))))).2.1=(pj4 (pj8 ah)).2.1/\(gD ds d4.2.2 (0,(0,(0,(0,false))))).2.2.1=(pj4 (pj8 ah)).2.2.1/\(gD ds d4.2.2 (0,(0,(0,(0,false))))).2.2.2.1=(pj4 (pj8 ah)).2.2.2.1/\(gD ds d4.2.2 (0,(0,(0,(0,false))))).2.2.2.2=(Q2 ah).1/\(([]:List SV)=[]))/\(ds=(Q2 ah).2.1/\false=false)/\True)) /\
    LoopP (λ(d17:Int×Int) (qn:(Int×Int)->Prop) =>
     ((decide (d17.2<(pj4 ah).2.2.1))=true ->
      (0<=(1:Int))/\(I64 (WX .i64 d17.1 (1:Int)))/\(0<=ah.2.2.1)/\(ah.2.2.1<(List.length ah.1))/\(0<=d17.2)/\(I64 (d17.2+(1:Int)))/\(∃ d18:Int×Int,((True/\True/\(Q1 .or .i64 (WX .i64 d17.1 (1:Int)) (Q1 .and .i64 (Q9 .i64 (gD ah.1 ah.2.2.1 0) d17.2) (1:Int)))=d18.1/\(pj4 ah).2.2.1=(pj4 ah).2.2.1/\(d17.2+(1:Int))=d18.2/\True)/\((ah.1=ah.1/\false=false)/\(ah.2.1=ah.2.1/\ah.2.2.1=ah.2.2.1/\ah.2.2.2.1=ah.2.2.2.1/\(pj4 ah).1=(pj4 ah).1/\(pj4 ah).2.1=(pj4 ah).2.1/\(([]:List SV)=[]))/\((pj4 (Q2 (Q2 ah)))=(pj4 (Q2 (Q2 ah)))/\(True/\True/\True/\True/\True/\True/\True/\True/\True/\True/\True/\True/\True/\True/\True/\True/\True/\True/\True/\True/\True/\True/\True/\True/\True/\True/\(Q2 ah).2.2.1=(Q2 ah).2.2.1/\(Q2 ah).2.2.2.1=(Q2 ah).2.2.2.1/\(pj4 (Q2 ah)).1=(pj4 (Q2 ah)).1/\True/\((pj4 (Q2 ah)).2.1=(pj4 (Q2 ah)).2.1/\(pj4 (Q2 ah)).2.2.1=(pj4 (Q2 ah)).2.2.1/\(pj4 (Q2 ah)).2.2.2.1=(pj4 (Q2 ah)).2.2.2.1/\(pj8 (Q2 ah)).1=(pj8 (Q2 ah)).1/\(pj8 (Q2 ah)).2.1=(pj8 (Q2 ah)).2.1/\(([]:List SV)=[]))/\True/\True/\(pj8 (Q2 ah)).2.2.1=(pj8 (Q2 ah)).2.2.1/\(((([]:List SV)=[]))/\((([]:List SV)=[])))/\((pj8 (Q2 ah)).2.2.2.1=(pj8 (Q2 ah)).2.2.2.1/\(pj4 (pj8 (Q2 ah))).1=(pj4 (pj8 (Q2 ah))).1/\(pj4 (pj8 (Q2 ah))).2.1=(pj4 (pj8 (Q2 ah))).2.1/\(pj4 (pj8 (Q2 ah))).2.2.1=(pj4 (pj8 (Q2 ah))).2.2.1/\(([]:List SV)=[]))/\((pj4 (pj8 (Q2 ah))).2.2.2.1=(pj4 (pj8 (Q2 ah))).2.2.2.1/\(Q2 (Q2 ah)).1=(Q2 (Q2 ah)).1/\(Q2 (Q2 ah)).2.1=(Q2 (Q2 ah)).2.1/\(Q2 (Q2 ah)).2.2.1=(Q2 (Q2 ah)).2.2.1/\(Q2 (Q2 ah)).2.2.2.1=(Q2 (Q2 ah)).2.2.2.1/\(([]:List SV)=[]))/\True/\True/\True/\True/\True/\True/\True/\True/\True/\True/\True/\True/\True/\True/\True/\True/\True/\True/\True/\True/\True/\True/\True/\True/\True/\True/\True/\True/\True/\True/\True/\True/\True/\True/\True/\True/\True/\True/\True/\True/\True/\True/\(([]:List SV)=[])))/\((pj4 ah).2.2.2.1=(pj4 ah).2.2.2.1/\(pj8 ah).1=(pj8 ah).1/\(pj8 ah).2.1=(pj8 ah).2.1/\(pj8 ah).2.2.1=(pj8 ah).2.2.1/\(([]:List SV)=[]))/\((pj8 ah).2.2.2.1=(pj8 ah).2.2.2.1)/\True/\((pj4 (pj8 ah)).1=(pj4 (pj8 ah)).1/\(pj4 (pj8 ah)).2.1=(pj4 (pj8 ah)).2.1/\(pj4 (pj8 ah)).2.2.1=(pj4 (pj8 ah)).2.2.1/\(pj4 (pj8 ah)).2.2.2.1=(pj4 (pj8 ah)).2.2.2.1/\(Q2 ah).1=(Q2 ah).1/\(([]:List SV)=[]))/\((Q2 ah).2.1=(Q2 ah).2.1/\false=false)/\True))/\qn d18)) /\
     ((decide (d17.2<(pj4 ah).2.2.1))=false ->
      (0<=ah.2.2.1)/\(ah.2.2.1<(List.length ah.1))/\(pj4 (Q2 (Q2 ah)))=kX/\(I64 ((Q2 ah).2.2.2.1+(1:Int)))/\(∃ d19:(List Int)×(List (Int×Bool))×Int,((True/\True/\True/\True/\True/\(Q2 ah).2.2.1=(lI ds)/\((Q2 ah).2.2.2.1+(1:Int))=d19.2.2/\True)/\(((pj4 ah).2.2.2.1=hk/\(pj8 ah).1=lw/\(pj8 ah).2.1=hd/\(pj8 ah).2.2.1=rows/\(([]:List SV)=[]))/\((sT ah.1 ah.2.2.1 d17.1)=d19.1/\false=false)/\((pj8 ah).2.2.2.1=d19.2.1)/\True/\((Q2 ah).2.1=ds/\false=false)/\True))/\q4 d19))) d170) /\
   ((gD ds d4.2.2 (0,(0,(0,(0,false))))).1=(4:Int) ->
    ∀ lJ:List Value,(I64 ((gD ds d4.2.2 (0,(0,(0,(0,false))))).2.1+(1:Int)))/\((lI d4.1)≠0)/\(0<=(gD ds d4.2.2 (0,(0,(0,(0,false))))).2.1)/\((gD ds d4.2.2 (0,(0,(0,(0,false))))).2.1<(List.length d4.1))/\(0<=(Int.tmod ((gD ds d4.2.2 (0,(0,(0,(0,false))))).2.1+(1:Int)) (lI d4.1)))/\((Int.tmod ((gD ds d4.2.2 (0,(0,(0,(0,false))))).2.1+(1:Int)) (lI d4.1))<(List.length d4.1))/\(0<=(gD ds d4.2.2 (0,(0,(0,(0,false))))).2.1)/\((gD ds d4.2.2 (0,(0,(0,(0,false))))).2.1<(List.length d4.1))/\(0<=(Int.tmod ((gD ds d4.2.2 (0,(0,(0,(0,false))))).2.1+(1:Int)) (lI d4.1)))/\((Int.tmod ((gD ds d4.2.2 (0,(0,(0,(0,false))))).2.1+(1:Int)) (lI d4.1))<(List.length (List.set d4.1 (Int.toNat (gD ds d4.2.2 (0,(0,(0,(0,false))))).2.1) (gD d4.1 (Int.tmod ((gD ds d4.2.2 (0,(0,(0,(0,false))))).2.1+(1:Int)) (lI d4.1)) 0))))/\lJ=lJ/\(I64 (d4.2.2+(1:Int)))/\(∃ d21:(List Int)×(List (Int×Bool))×Int,((True/\True/\True/\True/\True/\(lI ds)=(lI ds)/\(d4.2.2+(1:Int))=d21.2.2/\True)/\((hk=hk/\lw=lw/\hd=hd/\rows=rows/\(([]:List SV)=[]))/\((sT (List.set d4.1 (Int.toNat (gD ds d4.2.2 (0,(0,(0,(0,false))))).2.1) (gD d4.1 (Int.tmod ((gD ds d4.2.2 (0,(0,(0,(0,false))))).2.1+(1:Int)) (lI d4.1)) 0)) (Int.tmod ((gD ds d4.2.2 (0,(0,(0,(0,false))))).2.1+(1:Int)) (lI d4.1)) (List.getD d4.1 (Int.toNat (gD ds d4.2.2 (0,(0,(0,(0,false))))).2.1) 0))=d21.1/\false=false)/\(d4.2.1=d21.2.1)/\True/\(ds=ds/\false=false)/\True))/\q4 d21)) /\
   ((gD ds d4.2.2 (0,(0,(0,(0,false))))).1=(5:Int) ->
    ∀ lK:List Value,lK=lK/\(I64 (d4.2.2+(1:Int)))/\(∃ d23:(List Int)×(List (Int×Bool))×Int,((True/\True/\True/\True/\True/\(lI ds)=(lI ds)/\(d4.2.2+(1:Int))=d23.2.2/\True)/\((hk=hk/\lw=lw/\hd=hd/\rows=rows/\(([]:List SV)=[]))/\(d4.1=d23.1/\false=false)/\((Q14 (.i .i64) d4.2.1 (gD ds d4.2.2 (0,(0,(0,(0,false))))).2.2.2.1 true)=d23.2.1)/\True/\(ds=ds/\false=false)/\True))/\q4 d23)) /\
   True) /\
  ((decide (d4.2.2<(lI ds)))=false ->
   (lw.length<=110/\d4.1.length<=110)/\∃ (eG:(List (Int×Bool))×Int) (d260:(List (List UInt8))×Int),((True/\True/\True/\(lI (Zz hk lw hd d4.1))=eG.2/\(0:Int)=d260.2/\True)/\(((Zz hk lw hd d4.1)=d260.1/\(Zz hk lw hd d4.1).isEmpty=(List.isEmpty d260.1))/\(d4.2.1=eG.1)/\True)) /\
   LoopP (λ(d26:(List (List UInt8))×Int) (qo:((List (List UInt8))×Int)->Prop) =>
    ((decide (d26.2<eG.2))=true ->
     (0<=d26.2)/\(d26.2<(List.length d26.1))/\((List.length (gD d26.1 d26.2 []))<=4611686018427387904)/\∃ (aN:(List (List UInt8))×(List (Int×Bool))×Int×Int×Int×(List (Int×Bool))) (d290:(List Int)×(List Nat)),((True/\True/\d26.2=aN.2.2.1/\True/\True/\eG.2=aN.2.2.2.1/\d26.2=(pj4 aN).1/\True/\True)/\((d26.1=aN.1/\(List.isEmpty d26.1)=(List.isEmpty aN.1))/\(eG.1=aN.2.1)/\((List.map (λ(b:UInt8)=>(UInt8.toNat b:Int)) (gD d26.1 d26.2 []))=d290.1/\false=false)/\(eG.1=(pj4 aN).2/\([]:List Nat)=d290.2)/\True)) /\
     LoopP (λ(d29:(List Int)×(List Nat)) (qp:((List Int)×(List Nat))->Prop) =>
      ((∀ r:Nat,r<(List.length (pj4 aN).2)->r∈d29.2) ->
       (0<=aN.2.2.1)/\(aN.2.2.1<(List.length aN.1))/\(I64 ((pj4 aN).1+(1:Int)))/\(∃ d31:(List (List UInt8))×Int,((True/\True/\True/\aN.2.2.2.1=eG.2/\((pj4 aN).1+(1:Int))=d31.2/\True)/\(((sT aN.1 aN.2.2.1 (U4 d29.1))=d31.1/\(List.isEmpty aN.1)=(List.isEmpty d31.1))/\(aN.2.1=eG.1)/\True))/\qo d31)) /\
      (∀ fK:Nat,fK<(List.length (pj4 aN).2)->fK∉d29.2 ->
       ((d29.2++[fK])≠[])/\(0<=(List.getD (pj4 aN).2 (List.getLastD (d29.2++[fK]) 0) (0,false)).1)/\((List.getD (pj4 aN).2 (List.getLastD (d29.2++[fK]) 0) (0,false)).1<(List.length d29.1))/\(∃ d32:(List Int)×(List Nat),((True/\True/\aN.2.2.1=aN.2.2.1/\True/\True/\aN.2.2.2.1=aN.2.2.2.1/\(pj4 aN).1=(pj4 aN).1/\True/\True)/\((aN.1=aN.1/\(List.isEmpty aN.1)=(List.isEmpty aN.1))/\(aN.2.1=aN.2.1)/\((List.set d29.1 (Int.toNat (List.getD (pj4 aN).2 (List.getLastD (d29.2++[fK]) 0) (0,false)).1) (46:Int))=d32.1/\false=false)/\((pj4 aN).2=(pj4 aN).2/\(d29.2++[fK])=d32.2)/\True))/\qp d32))) d290) /\
    ((decide (d26.2<eG.2))=false ->
     (True/\((d26.1=(Ve lw hd rows ds)/\(List.isEmpty d26.1)=false)/\True)))) d260)) d40
def ZS:Cx:=⟨[(1000001,(.i .i64))],[],3,[],0,[],[],[],[],false,[],[],[],[]⟩
def ZT:List (Nat×LoopAnn):=[]
def Zw:Cx:=⟨[],[],18,[],0,[],[],[],[],false,[],[],[],[]⟩
def ZB:List (Nat×LoopAnn):=[]
def Zy:Cx:=⟨[],[],36,[],0,[],[],[],[],false,[],[],[],[]⟩
def Zv:List (Nat×LoopAnn):=[(0,⟨Int×Int×Int×Int×Bool×Int×Int×(List Int)×Int×(List Int)×(List (Int×Bool))×Int×Int×Int×Int×Bool×(List (Int×Int×Int×Int×Bool))×Int×Int×Bool×Int×Int×Int×Int×Bool×Int×Int×(List Int)×Int×(List Int)×Int×Int×Int×Int×Bool×(List Value),(List Int)×Int,[2,5,10,11],λe x=>[.lst 18,.box 4000005 0,.val (.i .i64) e.2.2.2.2.2.1,.val (.i .i64) x.2],λe x=>[(18,.slot 2,.lst 3 (.i .i64) x.1 false),(4000005,.slot 5,.cells [.val (.i .i64) e.1,.val (.i .i64) e.2.1,.val (.i .i64) e.2.2.1,.val (.i .i64) e.2.2.2.1,.val .bo e.2.2.2.2.1] (some 37)),(3999999,.key 3999999,.stk [.any,.any,.box 2 0,.any,.any,.lst 18,.map 19,.map 2500001,.any,.box 9 0,.any,.any,.any,.any,.any,.any,.any,.any,.any,.any,.any,.any,.any,.any,.any,.lst 21,.val (.i .i64) e.2.2.2.2.2.2.2.2.2.2.2.2.2.2.2.2.2.1,.val (.i .i64) e.2.2.2.2.2.2.2.2.2.2.2.2.2.2.2.2.2.2.1,.val .bo e.2.2.2.2.2.2.2.2.2.2.2.2.2.2.2.2.2.2.2.1,.any,.agg [.val (.i .i64) e.2.2.2.2.2.2.2.2.2.2.2.2.2.2.2.2.2.2.2.2.1,.val (.i .i64) e.2.2.2.2.2.2.2.2.2.2.2.2.2.2.2.2.2.2.2.2.2.1,.val (.i .i64) e.2.2.2.2.2.2.2.2.2.2.2.2.2.2.2.2.2.2.2.2.2.2.1,.val (.i .i64) e.2.2.2.2.2.2.2.2.2.2.2.2.2.2.2.2.2.2.2.2.2.2.2.1,.val .bo e.2.2.2.2.2.2.2.2.2.2.2.2.2.2.2.2.2.2.2.2.2.2.2.2.1],.map 2500001,.box 9 0,.val (.i .i64) e.2.2.2.2.2.2.2.2.2.2.2.2.2.2.2.2.2.2.2.2.2.2.2.2.2.1,.fn 70 [] [],.agg [.val (.i .i64) e.2.2.2.2.2.2.2.2.2.2.2.2.2.2.2.2.2.2.2.2.2.2.2.2.2.2.1,.val (.list (.i .i64)) e.2.2.2.2.2.2.2.2.2.2.2.2.2.2.2.2.2.2.2.2.2.2.2.2.2.2.2.1,.val (.i .i64) e.2.2.2.2.2.2.2.2.2.2.2.2.2.2.2.2.2.2.2.2.2.2.2.2.2.2.2.2.1,.val (.list (.i .i64)) e.2.2.2.2.2.2.2.2.2.2.2.2.2.2.2.2.2.2.2.2.2.2.2.2.2.2.2.2.2.1],.agg [.val (.i .i64) e.2.2.2.2.2.2.2.2.2.2.2.2.2.2.2.2.2.2.2.2.2.2.2.2.2.2.2.2.2.2.1,.val (.i .i64) e.2.2.2.2.2.2.2.2.2.2.2.2.2.2.2.2.2.2.2.2.2.2.2.2.2.2.2.2.2.2.2.1,.val (.i .i64) e.2.2.2.2.2.2.2.2.2.2.2.2.2.2.2.2.2.2.2.2.2.2.2.2.2.2.2.2.2.2.2.2.1,.val (.i .i64) e.2.2.2.2.2.2.2.2.2.2.2.2.2.2.2.2.2.2.2.2.2.2.2.2.2.2.2.2.2.2.2.2.2.1,.val .bo e.2.2.2.2.2.2.2.2.2.2.2.2.2.2.2.2.2.2.2.2.2.2.2.2.2.2.2.2.2.2.2.2.2.2.1],.lst 18,.map 19,.any,.any,.any,.any,.any,.any,.any,.any,.any,.any,.any,.any,.any,.any,.any,.any,.any,.any,.any,.any,.any,.any,.any,.any,.any,.any,.any,.any,.any,.any,.any,.any,.any,.any,.any,.any,.any,.any,.any,.any] e.2.2.2.2.2.2.2.2.2.2.2.2.2.2.2.2.2.2.2.2.2.2.2.2.2.2.2.2.2.2.2.2.2.2.2),(2,.key 2,.cells [.val (.i .i64) e.2.2.2.2.2.2.1,.val (.list (.i .i64)) e.2.2.2.2.2.2.2.1,.val (.i .i64) e.2.2.2.2.2.2.2.2.1,.val (.list (.i .i64)) e.2.2.2.2.2.2.2.2.2.1] (some 68)),(19,.key 19,.map (.i .i64) .bo e.2.2.2.2.2.2.2.2.2.2.1),(2500001,.key 2500001,.fm .i64 [(1,69),(2,70),(3,71),(4,72),(5,73)]),(9,.key 9,.cells [.val (.i .i64) e.2.2.2.2.2.2.2.2.2.2.2.1,.val (.i .i64) e.2.2.2.2.2.2.2.2.2.2.2.2.1,.val (.i .i64) e.2.2.2.2.2.2.2.2.2.2.2.2.2.1,.val (.i .i64) e.2.2.2.2.2.2.2.2.2.2.2.2.2.2.1,.val .bo e.2.2.2.2.2.2.2.2.2.2.2.2.2.2.2.1] (some 37)),(21,.key 21,.lst 37 (.pair (.i .i64) (.pair (.i .i64) (.pair (.i .i64) (.pair (.i .i64) .bo)))) e.2.2.2.2.2.2.2.2.2.2.2.2.2.2.2.2.1 false)]⟩)]
def ZD:Cx:=⟨[],[],34,[],0,[],[],[],[],false,[],[],[],[]⟩
def Zu:List (Nat×LoopAnn):=[(0,⟨(List Int)×Int×Int×Int×Int×Bool×Int×Int×(List Int)×Int×(List Int)×(List (Int×Bool))×Int×Int×Int×Int×Bool×(List (Int×Int×Int×Int×Bool))×Int×Int×Bool×Int×Int×Int×Int×Bool×Int×Int×(List Int)×Int×(List Int)×Int×Int×Int×Int×Bool×(List Value),Int×Int,[2,5,8,13,14],λe x=>[.lst 18,.box 4000005 0,.val (.i .i64) x.1,.val (.i .i64) e.2.2.2.2.2.2.1,.val (.i .i64) x.2],λe x=>[(18,.slot 2,.lst 3 (.i .i64) e.1 false),(4000005,.slot 5,.cells [.val (.i .i64) e.2.1,.val (.i .i64) e.2.2.1,.val (.i .i64) e.2.2.2.1,.val (.i .i64) e.2.2.2.2.1,.val .bo e.2.2.2.2.2.1] (some 37)),(3999999,.key 3999999,.stk [.any,.any,.box 2 0,.any,.any,.lst 18,.map 19,.map 2500001,.any,.box 9 0,.any,.any,.any,.any,.any,.any,.any,.any,.any,.any,.any,.any,.any,.any,.any,.lst 21,.val (.i .i64) e.2.2.2.2.2.2.2.2.2.2.2.2.2.2.2.2.2.2.1,.val (.i .i64) e.2.2.2.2.2.2.2.2.2.2.2.2.2.2.2.2.2.2.2.1,.val .bo e.2.2.2.2.2.2.2.2.2.2.2.2.2.2.2.2.2.2.2.2.1,.any,.agg [.val (.i .i64) e.2.2.2.2.2.2.2.2.2.2.2.2.2.2.2.2.2.2.2.2.2.1,.val (.i .i64) e.2.2.2.2.2.2.2.2.2.2.2.2.2.2.2.2.2.2.2.2.2.2.1,.val (.i .i64) e.2.2.2.2.2.2.2.2.2.2.2.2.2.2.2.2.2.2.2.2.2.2.2.1,.val (.i .i64) e.2.2.2.2.2.2.2.2.2.2.2.2.2.2.2.2.2.2.2.2.2.2.2.2.1,.val .bo e.2.2.2.2.2.2.2.2.2.2.2.2.2.2.2.2.2.2.2.2.2.2.2.2.2.1],.map 2500001,.box 9 0,.val (.i .i64) e.2.2.2.2.2.2.2.2.2.2.2.2.2.2.2.2.2.2.2.2.2.2.2.2.2.2.1,.fn 71 [] [],.agg [.val (.i .i64) e.2.2.2.2.2.2.2.2.2.2.2.2.2.2.2.2.2.2.2.2.2.2.2.2.2.2.2.1,.val (.list (.i .i64)) e.2.2.2.2.2.2.2.2.2.2.2.2.2.2.2.2.2.2.2.2.2.2.2.2.2.2.2.2.1,.val (.i .i64) e.2.2.2.2.2.2.2.2.2.2.2.2.2.2.2.2.2.2.2.2.2.2.2.2.2.2.2.2.2.1,.val (.list (.i .i64)) e.2.2.2.2.2.2.2.2.2.2.2.2.2.2.2.2.2.2.2.2.2.2.2.2.2.2.2.2.2.2.1],.agg [.val (.i .i64) e.2.2.2.2.2.2.2.2.2.2.2.2.2.2.2.2.2.2.2.2.2.2.2.2.2.2.2.2.2.2.2.1,.val (.i .i64) e.2.2.2.2.2.2.2.2.2.2.2.2.2.2.2.2.2.2.2.2.2.2.2.2.2.2.2.2.2.2.2.2.1,.val (.i .i64) e.2.2.2.2.2.2.2.2.2.2.2.2.2.2.2.2.2.2.2.2.2.2.2.2.2.2.2.2.2.2.2.2.2.1,.val (.i .i64) e.2.2.2.2.2.2.2.2.2.2.2.2.2.2.2.2.2.2.2.2.2.2.2.2.2.2.2.2.2.2.2.2.2.2.1,.val .bo e.2.2.2.2.2.2.2.2.2.2.2.2.2.2.2.2.2.2.2.2.2.2.2.2.2.2.2.2.2.2.2.2.2.2.2.1],.lst 18,.map 19,.any,.any,.any,.any,.any,.any,.any,.any,.any,.any,.any,.any,.any,.any,.any,.any,.any,.any,.any,.any,.any,.any,.any,.any,.any,.any,.any,.any,.any,.any,.any,.any,.any,.any,.any,.any,.any,.any,.any,.any] e.2.2.2.2.2.2.2.2.2.2.2.2.2.2.2.2.2.2.2.2.2.2.2.2.2.2.2.2.2.2.2.2.2.2.2.2),(2,.key 2,.cells [.val (.i .i64) e.2.2.2.2.2.2.2.1,.val (.list (.i .i64)) e.2.2.2.2.2.2.2.2.1,.val (.i .i64) e.2.2.2.2.2.2.2.2.2.1,.val (.list (.i .i64)) e.2.2.2.2.2.2.2.2.2.2.1] (some 68)),(19,.key 19,.map (.i .i64) .bo e.2.2.2.2.2.2.2.2.2.2.2.1),(2500001,.key 2500001,.fm .i64 [(1,69),(2,70),(3,71),(4,72),(5,73)]),(9,.key 9,.cells [.val (.i .i64) e.2.2.2.2.2.2.2.2.2.2.2.2.1,.val (.i .i64) e.2.2.2.2.2.2.2.2.2.2.2.2.2.1,.val (.i .i64) e.2.2.2.2.2.2.2.2.2.2.2.2.2.2.1,.val (.i .i64) e.2.2.2.2.2.2.2.2.2.2.2.2.2.2.2.1,.val .bo e.2.2.2.2.2.2.2.2.2.2.2.2.2.2.2.2.1] (some 37)),(21,.key 21,.lst 37 (.pair (.i .i64) (.pair (.i .i64) (.pair (.i .i64) (.pair (.i .i64) .bo)))) e.2.2.2.2.2.2.2.2.2.2.2.2.2.2.2.2.2.1 false)]⟩)]
def ZE:Cx:=⟨[],[],35,[],0,[],[],[],[],false,[],[],[],[]⟩
def Zt:List (Nat×LoopAnn):=[]
def ZC:Cx:=⟨[],[],11,[],0,[],[],[],[],false,[],[],[],[]⟩
def Zs:List (Nat×LoopAnn):=[]
def Y6:Cx:=⟨[(1000019,(.pair (.i .i64) .bo))],[(43,JE),(44,CSp.or Qn Qg),(46,J1),(31,Ma)],79,[4002117,4054019,3000066],0,[(45,Qc),(48,AX ZS (λ_=>ZT) c48 [.tmp 0] 3),(69,AX Zw (λ_=>ZB) c69 [] 18),(70,AX Zy (λ_=>Zv) c70 [] 36),(71,AX ZD (λ_=>Zu) c71 [] 34),(72,AX ZE (λ_=>Zt) c72 [] 35),(73,AX ZC (λ_=>Zs) c73 [] 11)],[],[],[],false,[],[],[33,54,66],[]⟩
def Nr (hk:Int) (lw:List Int) (hd:Int) (rows:List Int) (ds:List (Int×Int×Int×Int×Bool)):List (Nat×LoopAnn):=[(0,⟨Unit,(List Int)×(List (Int×Bool))×Int,[2,5,6,7,25,26,27],λe x=>[.box 2 0,.lst 18,.map 19,.map 2500001,.lst 21,.val (.i .i64) (((List.length ds):Nat):Int),.val (.i .i64) x.2.2],λe x=>[(2,.slot 2,.cells [.val (.i .i64) hk,.val (.list (.i .i64)) lw,.val (.i .i64) hd,.val (.list (.i .i64)) rows] (some 68)),(18,.slot 5,.lst 3 (.i .i64) x.1 false),(19,.slot 6,.map (.i .i64) .bo x.2.1),(2500001,.slot 7,.fm .i64 [(1,69),(2,70),(3,71),(4,72),(5,73)]),(21,.slot 25,.lst 37 (.pair (.i .i64) (.pair (.i .i64) (.pair (.i .i64) (.pair (.i .i64) .bo)))) ds false)]⟩),
 (2,⟨(List (Int×Bool))×Int,(List (List UInt8))×Int,[4,6,54,55,56],λe x=>[.lst 51,.map 19,.lst 51,.val (.i .i64) e.2,.val (.i .i64) x.2],λe x=>[(51,.slot 4,.lst 9 .st x.1 (List.isEmpty x.1)),(19,.slot 6,.rmap (.i .i64) .bo e.1)]⟩),
 (4,⟨(List (List UInt8))×(List (Int×Bool))×Int×Int×Int×(List (Int×Bool)),(List Int)×(List Nat),[4,6,10,12,54,55,56,64],λe x=>[.lst 51,.map 19,.val (.i .i64) e.2.2.1,.lst 62,.lst 51,.val (.i .i64) e.2.2.2.1,.val (.i .i64) e.2.2.2.2.1,.box 64 0],λe x=>[(51,.slot 4,.lst 9 .st e.1 (List.isEmpty e.1)),(19,.slot 6,.rmap (.i .i64) .bo e.2.1),(62,.slot 12,.lst 5 (.i .u8) x.1 false),(64,.slot 64,.iter (.i .i64) .bo e.2.2.2.2.2 x.2)]⟩)]
theorem Nb (d:(Int×List Int×Int×List Int)×List (Int×Int×Int×Int×Bool)):gwp (Y6) (Nr d.1.1 d.1.2.1 d.1.2.2.1 d.1.2.2.2 d.2) c24 0 (YI [.tmp 4] (WU d) (WL d)) (Qv 79 (AL.can Ya d))=ZR d.1.1 d.1.2.1 d.1.2.2.1 d.1.2.2.2 d.2:=by kernel_rfl
abbrev Ns:Prop:=OkC Tryz.prog 24 J7
theorem No (h:∀ (hk:Int) (lw:List Int) (hd:Int) (rows:List Int) (ds:List (Int×Int×Int×Int×Bool)),(Qb hk lw hd rows=0/\lw.length<=110/\rows.length<=110/\ds.length=1/\∀ z∈ds,Ho hd rows lw z=true)->ZR hk lw hd rows ds):OkC Tryz.prog 24 J7 :=
 QB Q7t mixed (C:=Y6) (V:=λ(d:(Int×List Int×Int×List Int)×List (Int×Int×Int×Int×Bool))=>ZR d.1.1 d.1.2.1 d.1.2.2.1 d.1.2.2.2 d.2) ⟨(.cons Yo (.cons (OkC.or Zc QW) (.cons XY (.cons PT .nil)))),(XsOk.cons QF (XsOk.cons (Wh Q8e mixed (C:=ZS) ⟨.nil,XsOk.nil,ItsOk.nil,YlOk.nil,IysOk.nil,XfOk.nil⟩ (λ_=>ZT)) (XsOk.cons (Wh Q8q mixed (C:=Zw) ⟨.nil,XsOk.nil,ItsOk.nil,YlOk.nil,IysOk.nil,XfOk.nil⟩ (λ_=>ZB)) (XsOk.cons (Wh Q76 mixed (C:=Zy) ⟨.nil,XsOk.nil,ItsOk.nil,YlOk.nil,IysOk.nil,XfOk.nil⟩ (λ_=>Zv)) (XsOk.cons (Wh Q8b mixed (C:=ZD) ⟨.nil,XsOk.nil,ItsOk.nil,YlOk.nil,IysOk.nil,XfOk.nil⟩ (λ_=>Zu)) (XsOk.cons (Wh Q7n mixed (C:=ZE) ⟨.nil,XsOk.nil,ItsOk.nil,YlOk.nil,IysOk.nil,XfOk.nil⟩ (λ_=>Zt)) (XsOk.cons (Wh Q8h mixed (C:=ZC) ⟨.nil,XsOk.nil,ItsOk.nil,YlOk.nil,IysOk.nil,XfOk.nil⟩ (λ_=>Zs)) XsOk.nil))))))),ItsOk.nil,YlOk.nil,IysOk.nil,XfOk.nil⟩ (Nb) λd hp=>h d.1.1 d.1.2.1 d.1.2.2.1 d.1.2.2.2 d.2 hp
theorem VS:BS:=Bl λhk lw hd rows h=>by
 obtain⟨hw,dM,bT⟩:=h;obtain⟨f0,f1,f2,f3,f4,f5,f6⟩:=Dj hw;have kY:∀ k:Nat,k<=110->InK .i64 ((k:Int)+1):=λk _=>by rw[QD];omega
 unfold Xq;(try delta lI gD sT I64 Q2 pj8 pj4);refine⟨⟨by rintro rfl;simp at f4,by omega⟩,trivial,⟨by simp,λ_ _ _ _=>trivial⟩,λw1=>⟨rfl,(),(rows,[],0),(by and_intros<;>first|rfl|trivial|simp),?_⟩⟩;refine⟨λs=>s=(rows,[],0),λ_=>0,rfl,?_⟩;rintro _ rfl;refine⟨λc=>by simp at c,λ_=>⟨⟨dM,bT⟩,?_⟩⟩;dsimp only;have ew:Zz hk lw hd rows=rows.map (Z6 lw):=by unfold Zz;rw[z7 hw]
 have er:Ve lw hd rows []=(Zz hk lw hd rows).map id:=by rw[ew,List.map_id];rfl
 rw[er];have qq:(Zz hk lw hd rows).length=rows.length:=by rw[ew,z_]
 have oD:∀ s∈Zz hk lw hd rows,s.length=lw.length:=λs hs=>by rw[ew] at hs;obtain⟨r,_,rfl⟩:=zL.1 hs;simp[Z6]
 clear er ew;generalize Zz hk lw hd rows=W at *
 refine⟨([],(W.length:Int)),(W,0),(by and_intros<;>first|rfl|trivial|simp),?_⟩;dsimp only;refine LoopP.count2 W.length (λk x=>x=Pb id W k) (RU _ _).symm (λk x hk hx q hq=>?_);subst hx;dsimp only;have eX:=BR id W k;refine⟨λc=>?_,λc=>?_⟩
 .have c:k<W.length:=by simpa using c
  have ez:(W.getD k []).length=lw.length:=by rw[Qj c];exact oD _ (zk c)
  have aW:=Ab id W k [] c;have hq:=hq _ c rfl;rw[<-aW] at hq;simp only[zg,Rv _ _ _ _ c];generalize W.getD k []=S at *
  refine⟨by omega,by omega,by omega,(Pb id W k,[],(k:Int),(W.length:Int),(k:Int),[]),(S.map (λ(b:UInt8)=>((b.toNat:Nat):Int)),[]),(by and_intros<;>first|rfl|trivial|simp),?_⟩;dsimp only;refine⟨λs=>s=(S.map (λ(b:UInt8)=>((b.toNat:Nat):Int)),[]),λs=>0,rfl,?_⟩;have he:(Pb id W k).isEmpty=((Pb id W k).set k (id S)).isEmpty:=by
   generalize Pb id W k=M;cases M with
   |nil=>rfl
   |cons a l=>cases k<;>rfl
  rintro _ rfl;dsimp only;refine⟨λha=>?_,λr hr hn=>by (simp at hr)⟩;have hx:U4 (S.map λ(b:UInt8)=>((b.toNat:Nat):Int))=id S:=by rw[RS];rfl
  refine⟨by omega,by omega,kY k (by omega),((Pb id W k).set k (id S),(k:Int)+1),?_,hq⟩;rw[hx,he];exact(by and_intros<;>first|rfl|trivial|simp)
 .have c:k=W.length:=by
   have:¬ k<W.length:=by simpa using c
   omega
  rw[c,A9];cases W with
  |nil=>simp at qq;omega
  |cons a l=>exact(by and_intros<;>first|rfl|trivial|simp)
theorem Y9:Ns:=No λhk lw hd rows ds h=>by
 obtain⟨hw,dM,bT,dU,oE⟩:=h;obtain⟨d,rfl⟩:∃ d,ds=[d]:=zK.1 dU;have oE:=oE d (by simp);obtain⟨f0,f1,f2,f3,f4,f5,f6⟩:=Dj hw;obtain⟨g1,g2,g3,g4,g5,g6,g7,g8⟩:=LZ oE;obtain⟨k1,k2⟩:=Q2w hw oE;have uE:(2:Int) ^ hd.toNat<=2 ^ 24:=by have:=Q9c (h:=hd.toNat) (by omega);have:=Db hd.toNat;omega
 have cK:∀ k:Nat,k<rows.length->0<=rows.getD k 0/\rows.getD k 0<2 ^ 24:=λk hk=>by rw[Qj hk];have:=f6 _ (zk hk);omega
 have fT:InK .i64 (0+1):=by rw[QD];omega
 have kY:∀ k:Nat,k<=110->InK .i64 ((k:Int)+1):=λk _=>by rw[QD];omega
 have cS:=Ik g5 (by omega);unfold ZR;(try delta lI gD sT I64 Q2 pj8 pj4);refine⟨⟨by rintro rfl;simp at f4,by omega⟩,⟨by simp,by simp⟩,⟨by simp,λ_ _ _ _=>trivial⟩,λw1=>⟨rfl,(),(rows,[],0),(by and_intros<;>first|rfl|trivial|simp),?_⟩⟩;refine⟨λs=>s=(rows,[],0)\/s=(Hc hd rows d,T7 d,1),λs=>(1-s.2.2).toNat,.inl rfl,?_⟩;rintro _ (rfl|rfl)
 .refine⟨λ_=>?_,λc=>by simp at c⟩;dsimp only;have e0:List.getD [d] (Int.toNat 0) (0,(0,(0,(0,false))))=d:=rfl;rw[e0];refine⟨by omega,by simp,g1,by omega,λh1 w5=>?_,λh2 w7=>?_,λh3 kX=>?_,λh4 lJ=>?_,λh5 lK=>?_,trivial⟩
  .have e:Hc hd rows d=rows.set d.2.1.toNat (Q1 .xor .i64 (rows.getD d.2.1.toNat 0) (WX .i64 1 d.2.2.1)):=by
    unfold Hc;rw[z7 h1,FL (cK _ (by omega)) g5 (by omega)]
   have eb:T7 d=[]:=by unfold T7;rw[z6 (by omega)]
   refine⟨g3,g4,g5,cS,g3,g4,rfl,fT,(Hc hd rows d,T7 d,1),?_,.inr rfl,by simp⟩;rw[e,eb];exact(by and_intros<;>first|rfl|trivial|simp)
  .refine⟨(d.1,d.2.1,d.2.2.1,d.2.2.2.1,d.2.2.2.2,(rows.length:Int),hk,lw,hd,rows,[],d.1,d.2.1,d.2.2.1,d.2.2.2.1,d.2.2.2.2,[d],(([d].length:Nat):Int),0,decide ((0:Int)<(([d].length:Nat):Int)),d.1,d.2.1,d.2.2.1,d.2.2.2.1,d.2.2.2.2,2,hk,lw,hd,rows,d.1,d.2.1,d.2.2.1,d.2.2.2.1,d.2.2.2.2,w7),(rows,0),(by and_intros<;>first|rfl|trivial|simp),?_⟩;dsimp only;refine LoopP.count2 rows.length (λk x=>x=Pb (Q12 d.2.2.1.toNat d.2.2.2.2) rows k) (RU _ _).symm (λk x hk hx q hq=>?_);subst hx;dsimp only;have eX:=BR (Q12 d.2.2.1.toNat d.2.2.2.2) rows k;refine⟨λc=>?_,λc=>?_⟩
   .have c:k<rows.length:=by simpa using c
    have hr:=cK k c;have aW:=Ab (Q12 d.2.2.1.toNat d.2.2.2.2) rows k 0 c;have hq:=hq _ c rfl;rw[<-aW] at hq;simp only[zg,Rv _ _ _ _ c,xL,eX,Z0m hr g5 (show d.2.2.1<24 by omega)];refine⟨by omega,by omega,g5,cS,by omega,by omega,λhu=>?_,λhu=>?_⟩
    .have hu:d.2.2.2.2=false:=by simpa using hu
     have al:=Nat.or_lt_two_pow (x:=(rows.getD k 0).toNat) (y:=2 ^ d.2.2.1.toNat) (n:=24) (by omega) (Nat.pow_lt_pow_right (by omega) (by omega));have e2:∀ v:Int,((Pb (Q12 d.2.2.1.toNat d.2.2.2.2) rows k).set k v).getD k 0=v:=λv=>by rw[Qj (by rw[xL];omega),List.getElem_set_self]
     simp only[e2,List.set_set];rw[FL (r:=(((rows.getD k 0).toNat ||| 2 ^ d.2.2.1.toNat:Nat):Int)) (by omega) g5 (by omega)];refine⟨by omega,by omega,g5,cS,by omega,by omega,kY k (by omega),_,?_,hq⟩;have:Q12 d.2.2.1.toNat d.2.2.2.2 (rows.getD k 0)=((((rows.getD k 0).toNat ||| 2 ^ d.2.2.1.toNat) ^^^ 2 ^ d.2.2.1.toNat:Nat):Int):=by unfold Q12;rw[hu];rfl
     rw[this];exact(by and_intros<;>first|rfl|trivial|simp)
    .have hu:d.2.2.2.2=true:=by simpa using hu
     refine⟨kY k (by omega),_,?_,hq⟩;have:Q12 d.2.2.1.toNat d.2.2.2.2 (rows.getD k 0)=(((rows.getD k 0).toNat ||| 2 ^ d.2.2.1.toNat:Nat):Int):=by unfold Q12;rw[hu];rfl
     rw[this];exact(by and_intros<;>first|rfl|trivial|simp)
   .have c:k=rows.length:=by
     have:¬ k<rows.length:=by simpa using c
     omega
    have e:Pb (Q12 d.2.2.1.toNat d.2.2.2.2) rows k=Hc hd rows d:=by rw[c,A9];unfold Hc;rw[z6 (by omega),z7 h2];rfl
    have eb:T7 d=[]:=by unfold T7;rw[z6 (by omega)]
    rw[e];refine⟨rfl,fT,(Hc hd rows d,T7 d,1),?_,.inr rfl,by simp⟩;rw[eb];exact(by and_intros<;>first|rfl|trivial|simp)
  .refine⟨(rows,d.1,d.2.1,d.2.2.1,d.2.2.2.1,d.2.2.2.2,hd,hk,lw,hd,rows,[],d.1,d.2.1,d.2.2.1,d.2.2.2.1,d.2.2.2.2,[d],(([d].length:Nat):Int),0,decide ((0:Int)<(([d].length:Nat):Int)),d.1,d.2.1,d.2.2.1,d.2.2.2.1,d.2.2.2.2,3,hk,lw,hd,rows,d.1,d.2.1,d.2.2.1,d.2.2.2.1,d.2.2.2.2,kX),(0,0),(by and_intros<;>first|rfl|trivial|simp),?_⟩;dsimp only;have hr:=cK d.2.1.toNat (by omega);refine LoopP.count2 hd.toNat (λk x=>x=((Q8c hd.toNat (rows.getD d.2.1.toNat 0).toNat k:Nat):Int)) rfl (λk x hk hx q hq=>?_);subst hx;dsimp only;have bk:=Q28 (FU hd.toNat (rows.getD d.2.1.toNat 0).toNat k) (show k<=24 by omega) (show (rows.getD d.2.1.toNat 0).toNat<2 ^ 24 by omega);rw[show (((rows.getD d.2.1.toNat 0).toNat:Nat):Int)=rows.getD d.2.1.toNat 0 by omega] at bk;refine⟨λc=>?_,λc=>?_⟩
   .have c:k<hd.toNat:=by
     have:(k:Int)<hd:=by simpa using c
     omega
    refine⟨by omega,bk.2,g3,g4,by omega,kY k (by omega),_,?_,hq _ c rfl⟩;rw[bk.1];exact(by and_intros<;>first|rfl|trivial|simp)
   .have c:k=hd.toNat:=by
     have:¬ (k:Int)<hd:=by simpa using c
     omega
    have e:rows.set d.2.1.toNat ((Q8c hd.toNat (rows.getD d.2.1.toNat 0).toNat k:Nat):Int)=Hc hd rows d:=by rw[c];unfold Hc;rw[z6 (by omega),z6 (by omega),z7 h3]
    have eb:T7 d=[]:=by unfold T7;rw[z6 (by omega)]
    rw[e];refine⟨g3,g4,rfl,fT,(Hc hd rows d,T7 d,1),?_,.inr rfl,by simp⟩;rw[eb];exact(by and_intros<;>first|rfl|trivial|simp)
  .have et:Int.tmod (d.2.1+1) (rows.length:Int)=(((d.2.1.toNat+1) % rows.length:Nat):Int):=by
    rw[show d.2.1+1=((d.2.1.toNat+1:Nat):Int) by omega];rfl
   have al:=xG (d.2.1.toNat+1) (show rows.length > 0 by omega);have e:Hc hd rows d=(rows.set d.2.1.toNat (rows.getD ((d.2.1.toNat+1) % rows.length) 0)).set ((d.2.1.toNat+1) % rows.length) (rows.getD d.2.1.toNat 0):=by unfold Hc;rw[z6 (by omega),z6 (by omega),z6 (by omega),z7 h4]
   have eb:T7 d=[]:=by unfold T7;rw[z6 (by omega)]
   rw[et];simp only[zg,xL];refine⟨by rw[QD];omega,by omega,g3,g4,by omega,by omega,g3,g4,by omega,by omega,trivial,fT,(Hc hd rows d,T7 d,1),?_,.inr rfl,by simp⟩;rw[e,eb];exact(by and_intros<;>first|rfl|trivial|simp)
  .have e:Hc hd rows d=rows:=by
    unfold Hc;rw[z6 (by omega),z6 (by omega),z6 (by omega),z6 (by omega)]
   have eb:T7 d=[(d.2.2.2.1,true)]:=by unfold T7;rw[z7 h5]
   refine⟨rfl,fT,(Hc hd rows d,T7 d,1),?_,.inr rfl,by simp⟩;rw[e,eb];exact(by and_intros<;>first|rfl|trivial|simp)
 .refine⟨λc=>by simp at c,λ_=>⟨⟨dM,by dsimp only;omega⟩,?_⟩⟩;dsimp only;have ew:Zz hk lw hd (Hc hd rows d)=(Hc hd rows d).map (Z6 lw):=by unfold Zz;rw[z7 k1]
  have er:Ve lw hd rows [d]=(Zz hk lw hd (Hc hd rows d)).map (L1 d):=by rw[ew,wg];rfl
  rw[er];have qq:(Zz hk lw hd (Hc hd rows d)).length=rows.length:=by rw[ew,z_];exact k2
  have oD:∀ s∈Zz hk lw hd (Hc hd rows d),s.length=lw.length:=λs hs=>by rw[ew] at hs;obtain⟨r,_,rfl⟩:=zL.1 hs;simp[Z6]
  clear er ew;generalize Zz hk lw hd (Hc hd rows d)=W at *
  refine⟨(T7 d,(W.length:Int)),(W,0),(by and_intros<;>first|rfl|trivial|simp),?_⟩;dsimp only;refine LoopP.count2 W.length (λk x=>x=Pb (L1 d) W k) (RU _ _).symm (λk x hk hx q hq=>?_);subst hx;dsimp only;have eX:=BR (L1 d) W k;refine⟨λc=>?_,λc=>?_⟩
  .have c:k<W.length:=by simpa using c
   have ez:(W.getD k []).length=lw.length:=by rw[Qj c];exact oD _ (zk c)
   have aW:=Ab (L1 d) W k [] c;have hq:=hq _ c rfl;rw[<-aW] at hq;simp only[zg,Rv _ _ _ _ c];generalize W.getD k []=S at *
   refine⟨by omega,by omega,by omega,(Pb (L1 d) W k,T7 d,(k:Int),(W.length:Int),(k:Int),T7 d),(S.map (λ(b:UInt8)=>((b.toNat:Nat):Int)),[]),(by and_intros<;>first|rfl|trivial|simp),?_⟩;dsimp only;refine⟨λs=>s=(S.map (λ(b:UInt8)=>((b.toNat:Nat):Int)),[])\/d.1=5/\s=((S.map (λ(b:UInt8)=>((b.toNat:Nat):Int))).set d.2.2.2.1.toNat 46,[0]),λs=>1-s.2.length,.inl rfl,?_⟩;have he:(Pb (L1 d) W k).isEmpty=((Pb (L1 d) W k).set k (L1 d S)).isEmpty:=by
    generalize Pb (L1 d) W k=M;cases M with
    |nil=>rfl
    |cons a l=>cases k<;>rfl
   rintro _ (rfl|⟨h5,rfl⟩)
   .dsimp only;refine⟨λha=>?_,λr hr hn=>?_⟩
    .have h5:d.1≠5:=λh5=>by
      have:=ha 0 (by unfold T7;rw[z7 h5];simp);simp at this
     have hx:U4 (S.map λ(b:UInt8)=>((b.toNat:Nat):Int))=L1 d S:=by rw[RS];unfold L1;rw[z6 h5]
     refine⟨by omega,by omega,kY k (by omega),((Pb (L1 d) W k).set k (L1 d S),(k:Int)+1),?_,hq⟩;rw[hx,he];exact(by and_intros<;>first|rfl|trivial|simp)
    .have h5:d.1=5:=Classical.byContradiction λh5=>by
      unfold T7 at hr;rw[z6 h5] at hr;simp at hr
     have eb:T7 d=[(d.2.2.2.1,true)]:=by unfold T7;rw[z7 h5]
     rw[eb] at hr |-;have hr:r=0:=by simp at hr;exact hr
     subst hr;refine⟨by simp,g7,?_,_,(by and_intros<;>first|rfl|trivial|simp),.inr ⟨h5,rfl⟩,by simp⟩;show d.2.2.2.1<_;simp only[z_];omega
   .dsimp only;refine⟨λha=>?_,λr hr hn=>?_⟩
    .have hx:U4 ((S.map λ(b:UInt8)=>((b.toNat:Nat):Int)).set d.2.2.2.1.toNat 46)=L1 d S:=by rw[Q3n];unfold L1;rw[z7 h5]
     refine⟨by omega,by omega,kY k (by omega),((Pb (L1 d) W k).set k (L1 d S),(k:Int)+1),?_,hq⟩;rw[hx,he];exact(by and_intros<;>first|rfl|trivial|simp)
    .have eb:T7 d=[(d.2.2.2.1,true)]:=by unfold T7;rw[z7 h5]
     rw[eb] at hr;have hr:r=0:=by simp at hr;exact hr
     subst hr;simp at hn
  .have c:k=W.length:=by
    have:¬ k<W.length:=by simpa using c
    omega
   rw[c,A9];cases W with
   |nil=>simp at qq;omega
   |cons a l=>exact(by and_intros<;>first|rfl|trivial|simp)
def Uu (hk:Int) (lw:List Int) (hd:Int) (rows:List Int) (ds:List Dmg) (n:Int):List (List UInt8):=if Qr hk lw hd rows ds n=0 then Q4e lw hd rows ds n.toNat else []
theorem HK {hk:Int}{lw:List Int}{hd:Int}{rows:List Int}{ds:List Dmg}{n:Int}(h:Qr hk lw hd rows ds n=0):Qb hk lw hd rows=0/\(∀ z∈ds,Ho hd rows lw z=true)/\1<=n/\n<=120:=by
 unfold Qr at h;split at h
 .exact(absurd h ‹_›)
 .rename_i h1;split at h
  .rename_i h2;have h1:W4 hk lw hd rows ds=0:=by omega
   unfold W4 at h1;split at h1
   .exact(absurd h1 ‹_›)
   .rename_i h3;split at h1
    .cases h1
    .split at h1
     .cases h1
     .rename_i h4;have h4:(ds.any λd=>!Ho hd rows lw d)=false:=by simpa using h4
      unfold inI at h2;simp only[z1,zf] at h2;exact⟨by omega,λz hz=>by simpa using xi.1 h4 z hz,h2.1,h2.2⟩
  .cases h
theorem Q6b {hk:Int}{lw:List Int}{hd:Int}{rows:List Int}{ds:List Dmg}{n:Int}(h1:Qb hk lw hd rows=0) (h2:∀ z∈ds,Ho hd rows lw z=true) (h3:ds.length<=100) (h4:1<=n) (h5:n<=120):Qr hk lw hd rows ds n=0:=by
 have e1:W4 hk lw hd rows ds=0:=by unfold W4;rw[z6 (by omega),z6 (by omega),z6];intro h;obtain⟨z,hz,h6⟩:=xN.1 h;rw[h2 z hz] at h6;cases h6
 unfold Qr;rw[z6 (by omega),z7 (by unfold inI;simp only[z1,zf];omega)]
theorem Il {hk:Int}{lw:List Int}{hd:Int}{rows:List Int}{ds:List Dmg}{n:Int}(h:Qr hk lw hd rows ds n=0):Qr hk lw hd rows [] n=0:=by obtain⟨h1,_,h3,h4⟩:=HK h;exact Q6b h1 (λz hz=>by cases hz) (by simp) h3 h4
def Q3r (w:Nat) (c:List (List UInt8)):Prop:=∀ s∈c,s.length=w/\∀ b∈s,b=46\/b=120
theorem Q3t (lw:List Int) (r:Int):(Z6 lw r).length=lw.length/\∀ b∈Z6 lw r,b=46\/b=120:=by
 refine⟨by simp[Z6],λb hb=>?_⟩;obtain⟨k,_,rfl⟩:=zL.1 hb;split
 .exact .inr rfl
 .exact .inl rfl
theorem Q9r {w:Nat}{s:List UInt8}(d:Dmg) (h:s.length=w/\∀ b∈s,b=46\/b=120):(L1 d s).length=w/\∀ b∈L1 d s,b=46\/b=120:=by
 unfold L1;split
 .refine⟨by simpa using h.1,λb hb=>?_⟩;rcases List.mem_or_eq_of_mem_set hb with h1|h1
  .exact h.2 b h1
  .exact .inl h1
 .exact h
theorem Q31 {hk:Int}{lw:List Int}{hd:Int}{rows:List Int}{ds:List Dmg}(hw:Qb hk lw hd rows=0) (hz:∀ z∈ds,Ho hd rows lw z=true):(Ve lw hd rows ds).length=rows.length/\Q3r lw.length (Ve lw hd rows ds):=by
 cases ds with
 |nil =>refine⟨by simp[Ve],λs hs=>?_⟩;obtain⟨r,_,rfl⟩:=zL.1 hs;exact Q3t lw r
 |cons d l =>have lB:=hz d (by simp);refine⟨by show ((Hc hd rows d).map _).length=_;rw[z_];exact(Q2w hw lB).2,λs hs=>?_⟩;obtain⟨r,_,rfl⟩:=zL.1 hs;exact Q9r d (Q3t lw r)
theorem Q6t {hk:Int}{lw:List Int}{hd:Int}{rows:List Int}{ds:List Dmg}{n:Int}(h:Qr hk lw hd rows ds n=0):(Uu hk lw hd rows ds n).length=n.toNat/\Q3r lw.length (Uu hk lw hd rows ds n):=by
 obtain⟨h1,h2,h3,h4⟩:=HK h;obtain⟨k1,k2⟩:=Q31 h1 h2;obtain⟨_,_,_,_,f4,_⟩:=Dj h1;have e:Uu hk lw hd rows ds n=Q4e lw hd rows ds n.toNat:=by unfold Uu;rw[z7 h]
 rw[e];refine⟨by simp[Q4e],λs hs=>?_⟩;obtain⟨i,_,rfl⟩:=zL.1 hs;have al:=xG i (show (Ve lw hd rows ds).length > 0 by omega);rw[Qj al];exact k2 _ (zk al)
def Ft (i:Nat) (s t:List UInt8) (k:Nat):List (Int×Int×Bool):=((List.range k).filter λ(w:Nat)=>s.getD w 0 != t.getD w 0).map λ(w:Nat)=>((i:Int),((w:Int),s.getD w 0==120))
theorem Q0s (i:Nat) (s t:List UInt8) (k:Nat):Ft i s t (k+1)=Ft i s t k++(if s.getD k 0 != t.getD k 0 then [((i:Int),((k:Int),s.getD k 0==120))] else []):=by
 unfold Ft;rw[List.range_succ,List.filter_append,xA];congr 1;by_cases h:(s.getD k 0 != t.getD k 0)=true
 .rw[z7 h];simp only[wa,h,zr,List.filter_nil,xe,List.map_nil]
 .rw[z6 h];simp only[wa,h,List.filter_nil];rfl
theorem ER (i:Nat) (s t:List UInt8) (k:Nat):(Ft i s t k).length<=k:=by unfold Ft;rw[z_];exact zN (List.length_filter_le _ _) (by simp)
def HV (a b:List (List UInt8)) (k:Nat):List (Int×Int×Bool):=(List.range k).flatMap λi=>Q3w i (a.getD i []) (b.getD i [])
theorem C6 (a b:List (List UInt8)) (k:Nat):HV a b (k+1)=HV a b k++Ft k (a.getD k []) (b.getD k []) (a.getD k []).length:=by unfold HV;rw[List.range_succ,List.flatMap_append];simp only[List.flatMap_cons,List.flatMap_nil,xk];rfl
theorem Ew {w:Nat}(a b:List (List UInt8)) (h:Q3r w a):∀ k,k<=a.length->(HV a b k).length<=w*k
 |0,_=>by simp[HV]
 |k+1,hk=>by
  have ih:=Ew a b h k (by omega);have h1:=ER k (a.getD k []) (b.getD k []) (a.getD k []).length;have h2:(a.getD k []).length=w:=by rw[Qj (show k<a.length by omega)];exact(h _ (zk _)).1
  rw[C6,zH,Nat.mul_succ];omega
theorem Z03 (a b:UInt8):(((a.toNat:Nat):Int) != ((b.toNat:Nat):Int))=(a != b):=by
 by_cases h:a=b
 .subst h;simp
 .have h1:a.toNat≠b.toNat:=λe=>h (UInt8.toNat_inj.1 e);have e1:(a != b)=true:=by simpa using h
  have e2:(((a.toNat:Nat):Int) != ((b.toNat:Nat):Int))=true:=by simp only[bne_iff_ne,ne_eq];omega
  rw[e1,e2]
theorem Q8a (a:UInt8):(((a.toNat:Nat):Int)==120)=(a==120):=by
 by_cases h:a=120
 .subst h;rfl
 .have h1:a.toNat≠120:=λe=>h (UInt8.toNat_inj.1 e);have e1:(a==120)=false:=by simpa using h
  have e2:(((a.toNat:Nat):Int)==120)=false:=by simp only[xg,ne_eq];omega
  rw[e1,e2]
def B8:AL ((Int×List Int×Int×List Int)×Unit×Int):=(.cons (.agg (.cons (.k (.i .i64)) (.cons (.k (.list (.i .i64))) (.cons (.k (.i .i64)) (.one (.k (.list (.i .i64)))))))) (.cons .nilS (.one (.k (.i .i64)))))
def Sl (d:(Int×List Int×Int×List Int)×Unit×Int):Prop:=d.1.2.1.length<=110/\d.1.2.2.2.length<=110
def G0 (d:(Int×List Int×Int×List Int)×Unit×Int):SV:=.tup [.lst 0,.val (.i .i64) (Qr d.1.1 d.1.2.1 d.1.2.2.1 d.1.2.2.2 [] d.2.2)]
def MW (d:(Int×List Int×Int×List Int)×Unit×Int):List OB:=[.lst 9 .st (Uu d.1.1 d.1.2.1 d.1.2.2.1 d.1.2.2.2 [] d.2.2) ((Uu d.1.1 d.1.2.1 d.1.2.2.1 d.1.2.2.2 [] d.2.2).isEmpty)]
def Vq:CSp:=XU B8 Sl G0 MW
def Kk (hk:Int) (lw:List Int) (hd:Int) (rows:List Int) (n:Int):Prop :=
 (lw.length<=110/\rows.length<=110/\([]:List (Int×Int×Int×Int×Bool)).length<=1000)/\(((Qr hk lw hd rows ([]:List (Int×Int×Int×Int×Bool)) n) != (0:Int))=true ->
  ((True/\(Qr hk lw hd rows ([]:List (Int×Int×Int×Int×Bool)) n)=Qr hk lw hd rows [] n/\(([]:List SV)=[]))/\(((Uu hk lw hd rows [] n)=[]/\(Uu hk lw hd rows [] n).isEmpty=true)/\True))) /\
 (((Qr hk lw hd rows ([]:List (Int×Int×Int×Int×Bool)) n) != (0:Int))=false ->
  (Qb hk lw hd rows=0/\lw.length<=110/\rows.length<=110)/\∃ (e4:Unit) (d40:(List (List UInt8))×Int),((True/\True/\n=n/\(0:Int)=d40.2/\True)/\((d40.1=[]/\(List.isEmpty d40.1)=true)/\((Ve lw hd rows [])=(Ve lw hd rows [])/\false=false)/\True)) /\
  LoopP (λ(d4:(List (List UInt8))×Int) (q4:((List (List UInt8))×Int)->Prop) =>
   ((decide (d4.2<n))=true ->
    ((lI (Ve lw hd rows []))≠0)/\(0<=(Int.tmod d4.2 (lI (Ve lw hd rows []))))/\((Int.tmod d4.2 (lI (Ve lw hd rows [])))<(List.length (Ve lw hd rows [])))/\(((List.length d4.1)+(List.length [(gD (Ve lw hd rows []) (Int.tmod d4.2 (lI (Ve lw hd rows []))) [])]))*16<=70368744177664)/\(I64 (d4.2+(1:Int)))/\(∃ d5:(List (List UInt8))×Int,((True/\True/\n=n/\(d4.2+(1:Int))=d5.2/\True)/\(((d4.1++[(gD (Ve lw hd rows []) (Int.tmod d4.2 (lI (Ve lw hd rows []))) [])])=d5.1/\false=(List.isEmpty d5.1))/\((Ve lw hd rows [])=(Ve lw hd rows [])/\false=false)/\True))/\q4 d5)) /\
   ((decide (d4.2<n))=false ->
    ((True/\(0:Int)=Qr hk lw hd rows [] n/\(([]:List SV)=[]))/\((d4.1=(Uu hk lw hd rows [] n)/\(List.isEmpty d4.1)=(Uu hk lw hd rows [] n).isEmpty)/\True)))) d40)
def DC:Cx:=⟨[(9,.st)],[(23,UJ),(24,CSp.or XK J7)],38,[],0,[],[],[],[],false,[],[],[],[]⟩
def S_ (hk:Int) (lw:List Int) (hd:Int) (rows:List Int) (n:Int):List (Nat×LoopAnn):=[(0,⟨Unit,(List (List UInt8))×Int,[6,9,22,23],λe x=>[.lst 35,.lst 21,.val (.i .i64) n,.val (.i .i64) x.2],λe x=>[(35,.slot 6,.lst 9 .st x.1 (List.isEmpty x.1)),(21,.slot 9,.lst 9 .st (Ve lw hd rows []) false)]⟩)]
theorem L0 (d:(Int×List Int×Int×List Int)×Unit×Int):gwp (DC) (S_ d.1.1 d.1.2.1 d.1.2.2.1 d.1.2.2.2 d.2.2) c9 0 (YI [.tmp 6,.tmp 7] (G0 d) (MW d)) (Qv 38 (AL.can B8 d))=Kk d.1.1 d.1.2.1 d.1.2.2.1 d.1.2.2.2 d.2.2:=by kernel_rfl
abbrev LJ:Prop:=OkC Tryz.prog 9 Vq
theorem L6 (h:∀ (hk:Int) (lw:List Int) (hd:Int) (rows:List Int) (n:Int),(lw.length<=110/\rows.length<=110)->Kk hk lw hd rows n):OkC Tryz.prog 9 Vq :=
 QB Z4a mixed (C:=DC) (V:=λ(d:(Int×List Int×Int×List Int)×Unit×Int)=>Kk d.1.1 d.1.2.1 d.1.2.2.1 d.1.2.2.2 d.2.2) ⟨(.cons HP (.cons (OkC.or VS Y9) .nil)),XsOk.nil,ItsOk.nil,YlOk.nil,IysOk.nil,XfOk.nil⟩ (L0) λd hp=>h d.1.1 d.1.2.1 d.1.2.2.1 d.1.2.2.2 d.2.2 hp
theorem DK:LJ:=L6 λhk lw hd rows n h=>by
 obtain⟨dM,bT⟩:=h;unfold Kk;(try delta lI gD sT I64 Q2 pj8 pj4);refine⟨⟨dM,bT,by simp⟩,λh1=>?_,λh1=>?_⟩
 .have h1:Qr hk lw hd rows [] n≠0:=by simpa using h1
  have e:Uu hk lw hd rows [] n=[]:=by unfold Uu;rw[z6 h1]
  rw[e];exact(by and_intros<;>first|rfl|trivial|simp)
 .have h1:Qr hk lw hd rows [] n=0:=by simpa using h1
  have ef:Uu hk lw hd rows [] n=Q4e lw hd rows [] n.toNat:=by unfold Uu;rw[z7 h1]
  rw[h1,ef];clear ef;obtain⟨hw,hz,eT,dD⟩:=HK h1;have hr:=(Q31 hw hz).1;obtain⟨_,_,_,_,f4,_⟩:=Dj hw;obtain⟨N,rfl⟩:=zu (show 0<=n by omega);refine⟨⟨hw,dM,bT⟩,(),([],0),(by and_intros<;>first|rfl|trivial|simp),?_⟩;refine LoopP.count2 N (λk x=>x=(List.range k).map λi=>(Ve lw hd rows []).getD (i % (Ve lw hd rows []).length) []) rfl (λk x hk hx q hq=>?_);subst hx;dsimp only;rw[show Int.tmod (k:Int) ((Ve lw hd rows []).length:Int)=((k % (Ve lw hd rows []).length:Nat):Int) from rfl];simp only[zg,z_,w4,x9,List.length_nil];have al:=xG k (show (Ve lw hd rows []).length > 0 by omega);refine⟨λc=>?_,λc=>?_⟩
  .have c:k<N:=by simpa using c
   have hq:=hq _ c rfl;rw[List.range_succ,xA] at hq;refine⟨by omega,by omega,by omega,by omega,by rw[QD];omega,_,?_,hq⟩;exact(by and_intros<;>first|rfl|trivial|simp)
  .have c:k=N:=by
    have:¬ k<N:=by simpa using c
    omega
   subst c;exact(by and_intros<;>first|rfl|trivial|simp)
def VY:AL ((Int×List Int×Int×List Int)×(List (Int×Int×Int×Int×Bool))×Int):=(.cons (.agg (.cons (.k (.i .i64)) (.cons (.k (.list (.i .i64))) (.cons (.k (.i .i64)) (.one (.k (.list (.i .i64)))))))) (.cons (.k (.list (.pair (.i .i64) (.pair (.i .i64) (.pair (.i .i64) (.pair (.i .i64) .bo)))))) (.one (.k (.i .i64)))))
def Dq (d:(Int×List Int×Int×List Int)×(List (Int×Int×Int×Int×Bool))×Int):Prop:=d.1.2.1.length<=110/\d.1.2.2.2.length<=110/\d.2.1.length=1
def V3 (d:(Int×List Int×Int×List Int)×(List (Int×Int×Int×Int×Bool))×Int):SV:=.tup [.lst 0,.val (.i .i64) (Qr d.1.1 d.1.2.1 d.1.2.2.1 d.1.2.2.2 d.2.1 d.2.2)]
def Vb (d:(Int×List Int×Int×List Int)×(List (Int×Int×Int×Int×Bool))×Int):List OB:=[.lst 9 .st (Uu d.1.1 d.1.2.1 d.1.2.2.1 d.1.2.2.2 d.2.1 d.2.2) ((Uu d.1.1 d.1.2.1 d.1.2.2.1 d.1.2.2.2 d.2.1 d.2.2).isEmpty)]
def XG:CSp:=XU VY Dq V3 Vb
def Xu (hk:Int) (lw:List Int) (hd:Int) (rows:List Int) (ds:List (Int×Int×Int×Int×Bool)) (n:Int):Prop :=
 (lw.length<=110/\rows.length<=110/\ds.length<=1000)/\(((Qr hk lw hd rows ds n) != (0:Int))=true ->
  ((True/\(Qr hk lw hd rows ds n)=Qr hk lw hd rows ds n/\(([]:List SV)=[]))/\(((Uu hk lw hd rows ds n)=[]/\(Uu hk lw hd rows ds n).isEmpty=true)/\True))) /\
 (((Qr hk lw hd rows ds n) != (0:Int))=false ->
  (Qb hk lw hd rows=0/\lw.length<=110/\rows.length<=110/\ds.length=1/\∀ z∈ds,Ho hd rows lw z=true)/\∃ (e4:Unit) (d40:(List (List UInt8))×Int),((True/\True/\n=n/\(0:Int)=d40.2/\True)/\((d40.1=[]/\(List.isEmpty d40.1)=true)/\((Ve lw hd rows ds)=(Ve lw hd rows ds)/\false=false)/\True)) /\
  LoopP (λ(d4:(List (List UInt8))×Int) (q4:((List (List UInt8))×Int)->Prop) =>
   ((decide (d4.2<n))=true ->
    ((lI (Ve lw hd rows ds))≠0)/\(0<=(Int.tmod d4.2 (lI (Ve lw hd rows ds))))/\((Int.tmod d4.2 (lI (Ve lw hd rows ds)))<(List.length (Ve lw hd rows ds)))/\(((List.length d4.1)+(List.length [(gD (Ve lw hd rows ds) (Int.tmod d4.2 (lI (Ve lw hd rows ds))) [])]))*16<=70368744177664)/\(I64 (d4.2+(1:Int)))/\(∃ d5:(List (List UInt8))×Int,((True/\True/\n=n/\(d4.2+(1:Int))=d5.2/\True)/\(((d4.1++[(gD (Ve lw hd rows ds) (Int.tmod d4.2 (lI (Ve lw hd rows ds))) [])])=d5.1/\false=(List.isEmpty d5.1))/\((Ve lw hd rows ds)=(Ve lw hd rows ds)/\false=false)/\True))/\q4 d5)) /\
   ((decide (d4.2<n))=false ->
    ((True/\(0:Int)=Qr hk lw hd rows ds n/\(([]:List SV)=[]))/\((d4.1=(Uu hk lw hd rows ds n)/\(List.isEmpty d4.1)=(Uu hk lw hd rows ds n).isEmpty)/\True)))) d40)
def VH:Cx:=⟨[(9,.st)],[(23,UJ),(24,CSp.or XK J7)],38,[],0,[],[],[],[],false,[],[],[],[]⟩
def BI (hk:Int) (lw:List Int) (hd:Int) (rows:List Int) (ds:List (Int×Int×Int×Int×Bool)) (n:Int):List (Nat×LoopAnn):=[(0,⟨Unit,(List (List UInt8))×Int,[6,9,22,23],λe x=>[.lst 35,.lst 21,.val (.i .i64) n,.val (.i .i64) x.2],λe x=>[(35,.slot 6,.lst 9 .st x.1 (List.isEmpty x.1)),(21,.slot 9,.lst 9 .st (Ve lw hd rows ds) false)]⟩)]
theorem B_ (d:(Int×List Int×Int×List Int)×(List (Int×Int×Int×Int×Bool))×Int):gwp (VH) (BI d.1.1 d.1.2.1 d.1.2.2.1 d.1.2.2.2 d.2.1 d.2.2) c9 0 (YI [.tmp 6,.tmp 7] (V3 d) (Vb d)) (Qv 38 (AL.can VY d))=Xu d.1.1 d.1.2.1 d.1.2.2.1 d.1.2.2.2 d.2.1 d.2.2:=by kernel_rfl
abbrev Bm:Prop:=OkC Tryz.prog 9 XG
theorem Bu (h:∀ (hk:Int) (lw:List Int) (hd:Int) (rows:List Int) (ds:List (Int×Int×Int×Int×Bool)) (n:Int),(lw.length<=110/\rows.length<=110/\ds.length=1)->Xu hk lw hd rows ds n):OkC Tryz.prog 9 XG :=
 QB Z4a mixed (C:=VH) (V:=λ(d:(Int×List Int×Int×List Int)×(List (Int×Int×Int×Int×Bool))×Int)=>Xu d.1.1 d.1.2.1 d.1.2.2.1 d.1.2.2.2 d.2.1 d.2.2) ⟨(.cons HP (.cons (OkC.or VS Y9) .nil)),XsOk.nil,ItsOk.nil,YlOk.nil,IysOk.nil,XfOk.nil⟩ (B_) λd hp=>h d.1.1 d.1.2.1 d.1.2.2.1 d.1.2.2.2 d.2.1 d.2.2 hp
theorem VU:Bm:=Bu λhk lw hd rows ds n h=>by
 obtain⟨dM,bT,hl⟩:=h;unfold Xu;(try delta lI gD sT I64 Q2 pj8 pj4);refine⟨⟨dM,bT,by omega⟩,λh1=>?_,λh1=>?_⟩
 .have h1:Qr hk lw hd rows ds n≠0:=by simpa using h1
  have e:Uu hk lw hd rows ds n=[]:=by unfold Uu;rw[z6 h1]
  rw[e];exact(by and_intros<;>first|rfl|trivial|simp)
 .have h1:Qr hk lw hd rows ds n=0:=by simpa using h1
  have ef:Uu hk lw hd rows ds n=Q4e lw hd rows ds n.toNat:=by unfold Uu;rw[z7 h1]
  rw[h1,ef];clear ef;obtain⟨hw,hz,eT,dD⟩:=HK h1;have hr:=(Q31 hw hz).1;obtain⟨_,_,_,_,f4,_⟩:=Dj hw;obtain⟨N,rfl⟩:=zu (show 0<=n by omega);refine⟨⟨hw,dM,bT,hl,hz⟩,(),([],0),(by and_intros<;>first|rfl|trivial|simp),?_⟩;refine LoopP.count2 N (λk x=>x=(List.range k).map λi=>(Ve lw hd rows ds).getD (i % (Ve lw hd rows ds).length) []) rfl (λk x hk hx q hq=>?_);subst hx;dsimp only;rw[show Int.tmod (k:Int) ((Ve lw hd rows ds).length:Int)=((k % (Ve lw hd rows ds).length:Nat):Int) from rfl];simp only[zg,z_,w4,x9,List.length_nil];have al:=xG k (show (Ve lw hd rows ds).length > 0 by omega);refine⟨λc=>?_,λc=>?_⟩
  .have c:k<N:=by simpa using c
   have hq:=hq _ c rfl;rw[List.range_succ,xA] at hq;refine⟨by omega,by omega,by omega,by omega,by rw[QD];omega,_,?_,hq⟩;exact(by and_intros<;>first|rfl|trivial|simp)
  .have c:k=N:=by
    have:¬ k<N:=by simpa using c
    omega
   subst c;exact(by and_intros<;>first|rfl|trivial|simp)
def D_:AL ((Int×List Int×Int×List Int)×(List (Int×Int×Int×Int×Bool))×Int):=(.cons (.agg (.cons (.k (.i .i64)) (.cons (.k (.list (.i .i64))) (.cons (.k (.i .i64)) (.one (.k (.list (.i .i64)))))))) (.cons (.k (.list (.pair (.i .i64) (.pair (.i .i64) (.pair (.i .i64) (.pair (.i .i64) .bo)))))) (.one (.k (.i .i64)))))
def Ry (d:(Int×List Int×Int×List Int)×(List (Int×Int×Int×Int×Bool))×Int):Prop:=d.1.2.1.length<=110/\d.1.2.2.2.length<=110/\d.2.1.length=1
def Gc (d:(Int×List Int×Int×List Int)×(List (Int×Int×Int×Int×Bool))×Int):SV:=.tup [.lst 0,.val (.i .i64) (Qr d.1.1 d.1.2.1 d.1.2.2.1 d.1.2.2.2 d.2.1 d.2.2)]
def GB (d:(Int×List Int×Int×List Int)×(List (Int×Int×Int×Int×Bool))×Int):List OB:=[.lst 52 (.pair (.i .i64) (.pair (.i .i64) .bo)) (RJ d.1.1 d.1.2.1 d.1.2.2.1 d.1.2.2.2 d.2.1 d.2.2) ((RJ d.1.1 d.1.2.1 d.1.2.2.1 d.1.2.2.2 d.2.1 d.2.2).isEmpty)]
def Mb:CSp:=XU D_ Ry Gc GB
def Kd (hk:Int) (lw:List Int) (hd:Int) (rows:List Int) (ds:List (Int×Int×Int×Int×Bool)) (n:Int):Prop :=
 (lw.length<=110/\rows.length<=110/\ds.length=1)/\((Qr hk lw hd rows ds n != (0:Int))=true ->
  ((True/\Qr hk lw hd rows ds n=Qr hk lw hd rows ds n/\(([]:List SV)=[]))/\(((RJ hk lw hd rows ds n)=[]/\(RJ hk lw hd rows ds n).isEmpty=true)/\True))) /\
 ((Qr hk lw hd rows ds n != (0:Int))=false ->
  (lw.length<=110/\rows.length<=110)/\∀ w1:List Value,w1=w1/\∀ w2:LpD,∃ (e6:(List (List UInt8))×(List (List UInt8))×Int×Int×(List Int)×Int×(List Int)×(List (Int×Int×Int×Int×Bool))×Int×Int×(List Int)×Int×(List Int)×Int×Int×Int×Int×(List Int)×Int×(List Int)×(List (Int×Int×Int×Int×Bool))×Int×Int×Int×Int×Bool×Int×Int×(List Int)×Int×(List Int)×Int×Int×Int×LpD) (d60:Int×(List (Int×Int×Bool))),((True/\True/\True/\(lI (Uu hk lw hd rows ds n))=e6.2.2.1/\(0:Int)=d60.1/\True)/\((True/\(([]:List SV)=[]))/\((Uu hk lw hd rows [] n)=e6.1/\(Uu hk lw hd rows [] n).isEmpty=(List.isEmpty e6.1))/\((Uu hk lw hd rows ds n)=e6.2.1/\(Uu hk lw hd rows ds n).isEmpty=(List.isEmpty e6.2.1))/\((Q2 (Q2 e6)).2.2=w2/\((hk=e6.2.2.2.1/\lw=(pj4 e6).1/\hd=(pj4 e6).2.1/\rows=(pj4 e6).2.2.1/\(([]:List SV)=[]))/\ds=(pj4 e6).2.2.2.1/\n=(pj8 e6).1/\True/\True/\True/\True/\Qr hk lw hd rows ds n=(pj4 (pj8 e6)).2.1/\True/\True/\Qr hk lw hd rows [] n=(pj4 (pj8 e6)).2.2.1/\True/\True/\(True/\Qr hk lw hd rows ds n=(pj4 (pj8 e6)).2.2.2.1/\(([]:List SV)=[]))/\(hk=(Q2 e6).1/\lw=(Q2 e6).2.1/\hd=(Q2 e6).2.2.1/\rows=(Q2 e6).2.2.2.1/\(([]:List SV)=[]))/\ds=(pj4 (Q2 e6)).1/\n=(pj4 (Q2 e6)).2.1/\(True/\Qr hk lw hd rows ds n=(pj4 (Q2 e6)).2.2.1/\(([]:List SV)=[]))/\True/\Qr hk lw hd rows ds n=(pj4 (Q2 e6)).2.2.2.1/\Qr hk lw hd rows ds n=(pj8 (Q2 e6)).1/\(Qr hk lw hd rows ds n != (0:Int))=(pj8 (Q2 e6)).2.1/\True/\(True/\Qr hk lw hd rows [] n=(pj8 (Q2 e6)).2.2.1/\(([]:List SV)=[]))/\(hk=(pj8 (Q2 e6)).2.2.2.1/\lw=(pj4 (pj8 (Q2 e6))).1/\hd=(pj4 (pj8 (Q2 e6))).2.1/\rows=(pj4 (pj8 (Q2 e6))).2.2.1/\(([]:List SV)=[]))/\n=(pj4 (pj8 (Q2 e6))).2.2.2.1/\(True/\Qr hk lw hd rows [] n=(Q2 (Q2 e6)).1/\(([]:List SV)=[]))/\True/\Qr hk lw hd rows [] n=(Q2 (Q2 e6)).2.1/\True/\True/\(((([]:List SV)=[]))/\(True/\True/\(([]:List SV)=[])))/\True/\True/\True/\True/\True/\True/\True/\True/\True/\True/\True/\True/\True/\True/\True/\True/\(([]:List SV)=[])))/\(hk=(pj8 e6).2.1/\lw=(pj8 e6).2.2.1/\hd=(pj8 e6).2.2.2.1/\rows=(pj4 (pj8 e6)).1/\(([]:List SV)=[]))/\(True/\(([]:List SV)=[]))/\(d60.2=[]/\(List.isEmpty d60.2)=true)/\(True/\(([]:List SV)=[]))/\(True/\(([]:List SV)=[]))/\True)) /\
  LoopP (λ(d6:Int×(List (Int×Int×Bool))) (q6:(Int×(List (Int×Int×Bool)))->Prop) =>
   ((decide (d6.1<e6.2.2.1))=true ->
    (0<=d6.1)/\(d6.1<(List.length e6.2.1))/\∃ (e9:(List (List UInt8))×Int×(List UInt8)×(List (List UInt8))×Int×Int×(List UInt8)×Int×(List Int)×Int×(List Int)×(List (Int×Int×Int×Int×Bool))×Int×Int×(List Int)×Int×(List Int)×Int×Int×Int×Int×(List Int)×Int×(List Int)×(List (Int×Int×Int×Int×Bool))×Int×Int×Int×Int×Bool×Int×Int×(List Int)×Int×(List Int)×Int×Int×Int×LpD) (d90:Nat×(List (Int×Int×Bool))),((True/\True/\d6.1=e9.2.1/\(gD e6.2.1 d6.1 [])=e9.2.2.1/\True/\e6.2.2.1=(pj4 e9).1/\d6.1=(pj4 e9).2.1/\True/\True)/\((True/\(([]:List SV)=[]))/\(e6.1=e9.1/\(List.isEmpty e6.1)=(List.isEmpty e9.1))/\(e6.2.1=e9.2.2.2.1/\(List.isEmpty e6.2.1)=(List.isEmpty e9.2.2.2.1))/\((pj4 e9).2.2.1=(gD e6.2.1 d6.1 [])/\d90.1=0)/\((pj4 (Q2 (Q2 e9))).2.2=(Q2 (Q2 e6)).2.2/\((e6.2.2.2.1=(pj4 e9).2.2.2.1/\(pj4 e6).1=(pj8 e9).1/\(pj4 e6).2.1=(pj8 e9).2.1/\(pj4 e6).2.2.1=(pj8 e9).2.2.1/\(([]:List SV)=[]))/\(pj4 e6).2.2.2.1=(pj8 e9).2.2.2.1/\(pj8 e6).1=(pj4 (pj8 e9)).1/\True/\True/\True/\True/\(pj4 (pj8 e6)).2.1=(Q2 e9).2.1/\True/\True/\(pj4 (pj8 e6)).2.2.1=(Q2 e9).2.2.1/\True/\True/\(True/\(pj4 (pj8 e6)).2.2.2.1=(Q2 e9).2.2.2.1/\(([]:List SV)=[]))/\((Q2 e6).1=(pj4 (Q2 e9)).1/\(Q2 e6).2.1=(pj4 (Q2 e9)).2.1/\(Q2 e6).2.2.1=(pj4 (Q2 e9)).2.2.1/\(Q2 e6).2.2.2.1=(pj4 (Q2 e9)).2.2.2.1/\(([]:List SV)=[]))/\(pj4 (Q2 e6)).1=(pj8 (Q2 e9)).1/\(pj4 (Q2 e6)).2.1=(pj8 (Q2 e9)).2.1/\(True/\(pj4 (Q2 e6)).2.2.1=(pj8 (Q2 e9)).2.2.1/\(([]:List SV)=[]))/\True/\(pj4 (Q2 e6)).2.2.2.1=(pj8 (Q2 e9)).2.2.2.1/\(pj8 (Q2 e6)).1=(pj4 (pj8 (Q2 e9))).1/\(pj8 (Q2 e6)).2.1=(pj4 (pj8 (Q2 e9))).2.1/\True/\(True/\(pj8 (Q2 e6)).2.2.1=(pj4 (pj8 (Q2 e9))).2.2.1/\(([]:List SV)=[]))/\((pj8 (Q2 e6)).2.2.2.1=(pj4 (pj8 (Q2 e9))).2.2.2.1/\(pj4 (pj8 (Q2 e6))).1=(Q2 (Q2 e9)).1/\(pj4 (pj8 (Q2 e6))).2.1=(Q2 (Q2 e9)).2.1/\(pj4 (pj8 (Q2 e6))).2.2.1=(Q2 (Q2 e9)).2.2.1/\(([]:List SV)=[]))/\(pj4 (pj8 (Q2 e6))).2.2.2.1=(Q2 (Q2 e9)).2.2.2.1/\(True/\(Q2 (Q2 e6)).1=(pj4 (Q2 (Q2 e9))).1/\(([]:List SV)=[]))/\True/\(Q2 (Q2 e6)).2.1=(pj4 (Q2 (Q2 e9))).2.1/\True/\True/\(((([]:List SV)=[]))/\(True/\True/\(([]:List SV)=[])))/\True/\True/\True/\True/\True/\True/\True/\True/\True/\True/\True/\True/\True/\True/\True/\True/\(([]:List SV)=[])))/\((pj8 e6).2.1=(pj4 (pj8 e9)).2.1/\(pj8 e6).2.2.1=(pj4 (pj8 e9)).2.2.1/\(pj8 e6).2.2.2.1=(pj4 (pj8 e9)).2.2.2.1/\(pj4 (pj8 e6)).1=(Q2 e9).1/\(([]:List SV)=[]))/\(True/\(([]:List SV)=[]))/\(d6.2=d90.2/\(List.isEmpty d6.2)=(List.isEmpty d90.2))/\(True/\(([]:List SV)=[]))/\(True/\(([]:List SV)=[]))/\True)) /\
    LoopP (λ(d9:Nat×(List (Int×Int×Bool))) (q9:(Nat×(List (Int×Int×Bool)))->Prop) =>
     ((d9.1<(List.length (pj4 e9).2.2.1) ->
      (UInt8.toNat (List.getD (pj4 e9).2.2.1 d9.1 0))<128 /\
      (0<=((d9.1:Nat):Int))/\(((d9.1:Nat):Int)<(List.length e9.2.2.1))/\(0<=e9.2.1)/\(e9.2.1<(List.length e9.1))/\(0<=((d9.1:Nat):Int))/\(((d9.1:Nat):Int)<(List.length (gD e9.1 e9.2.1 [])))/\(((((UInt8.toNat (gD e9.2.2.1 ((d9.1:Nat):Int) 0):Nat):Int) != ((UInt8.toNat (gD (gD e9.1 e9.2.1 []) ((d9.1:Nat):Int) 0):Nat):Int))=true ->
       (pj4 (Q2 (Q2 e9))).2.2=w2/\∀ qs:List Value,(0<=e9.2.1)/\(e9.2.1<(List.length e9.2.2.2.1))/\(0<=((d9.1:Nat):Int))/\(((d9.1:Nat):Int)<(List.length (gD e9.2.2.2.1 e9.2.1 [])))/\(((List.length d9.2)+(List.length [(e9.2.1,(((d9.1:Nat):Int),(((UInt8.toNat (gD (gD e9.2.2.2.1 e9.2.1 []) ((d9.1:Nat):Int) 0):Nat):Int)==(120:Int))))]))*24<=70368744177664)/\qs=qs/\(pj4 (Q2 (Q2 e9))).2.2=w2/\(∃ d11:Nat×(List (Int×Int×Bool)),((True/\True/\e9.2.1=e9.2.1/\e9.2.2.1=e9.2.2.1/\True/\(pj4 e9).1=(pj4 e9).1/\(pj4 e9).2.1=(pj4 e9).2.1/\True/\True)/\((True/\(([]:List SV)=[]))/\(e9.1=e9.1/\(List.isEmpty e9.1)=(List.isEmpty e9.1))/\(e9.2.2.2.1=e9.2.2.2.1/\(List.isEmpty e9.2.2.2.1)=(List.isEmpty e9.2.2.2.1))/\((pj4 e9).2.2.1=(pj4 e9).2.2.1/\d11.1=(d9.1+1))/\((pj4 (Q2 (Q2 e9))).2.2=(pj4 (Q2 (Q2 e9))).2.2/\(((pj4 e9).2.2.2.1=(pj4 e9).2.2.2.1/\(pj8 e9).1=(pj8 e9).1/\(pj8 e9).2.1=(pj8 e9).2.1/\(pj8 e9).2.2.1=(pj8 e9).2.2.1/\(([]:List SV)=[]))/\(pj8 e9).2.2.2.1=(pj8 e9).2.2.2.1/\(pj4 (pj8 e9)).1=(pj4 (pj8 e9)).1/\True/\True/\True/\True/\(Q2 e9).2.1=(Q2 e9).2.1/\True/\True/\(Q2 e9).2.2.1=(Q2 e9).2.2.1/\True/\True/\(True/\(Q2 e9).2.2.2.1=(Q2 e9).2.2.2.1/\(([]:List SV)=[]))/\((pj4 (Q2 e9)).1=(pj4 (Q2 e9)).1/\(pj4 (Q2 e9)).2.1=(pj4 (Q2 e9)).2.1/\(pj4 (Q2 e9)).2.2.1=(pj4 (Q2 e9)).2.2.1/\(pj4 (Q2 e9)).2.2.2.1=(pj4 (Q2 e9)).2.2.2.1/\(([]:List SV)=[]))/\(pj8 (Q2 e9)).1=(pj8 (Q2 e9)).1/\(pj8 (Q2 e9)).2.1=(pj8 (Q2 e9)).2.1/\(True/\(pj8 (Q2 e9)).2.2.1=(pj8 (Q2 e9)).2.2.1/\(([]:List SV)=[]))/\True/\(pj8 (Q2 e9)).2.2.2.1=(pj8 (Q2 e9)).2.2.2.1/\(pj4 (pj8 (Q2 e9))).1=(pj4 (pj8 (Q2 e9))).1/\(pj4 (pj8 (Q2 e9))).2.1=(pj4 (pj8 (Q2 e9))).2.1/\True/\(True/\(pj4 (pj8 (Q2 e9))).2.2.1=(pj4 (pj8 (Q2 e9))).2.2.1/\(([]:List SV)=[]))/\((pj4 (pj8 (Q2 e9))).2.2.2.1=(pj4 (pj8 (Q2 e9))).2.2.2.1/\(Q2 (Q2 e9)).1=(Q2 (Q2 e9)).1/\(Q2 (Q2 e9)).2.1=(Q2 (Q2 e9)).2.1/\(Q2 (Q2 e9)).2.2.1=(Q2 (Q2 e9)).2.2.1/\(([]:List SV)=[]))/\(Q2 (Q2 e9)).2.2.2.1=(Q2 (Q2 e9)).2.2.2.1/\(True/\(pj4 (Q2 (Q2 e9))).1=(pj4 (Q2 (Q2 e9))).1/\(([]:List SV)=[]))/\True/\(pj4 (Q2 (Q2 e9))).2.1=(pj4 (Q2 (Q2 e9))).2.1/\True/\True/\(((([]:List SV)=[]))/\(True/\True/\(([]:List SV)=[])))/\True/\True/\True/\True/\True/\True/\True/\True/\True/\True/\True/\True/\True/\True/\True/\True/\(([]:List SV)=[])))/\((pj4 (pj8 e9)).2.1=(pj4 (pj8 e9)).2.1/\(pj4 (pj8 e9)).2.2.1=(pj4 (pj8 e9)).2.2.1/\(pj4 (pj8 e9)).2.2.2.1=(pj4 (pj8 e9)).2.2.2.1/\(Q2 e9).1=(Q2 e9).1/\(([]:List SV)=[]))/\(True/\(([]:List SV)=[]))/\((d9.2++[(e9.2.1,(((d9.1:Nat):Int),(((UInt8.toNat (gD (gD e9.2.2.2.1 e9.2.1 []) ((d9.1:Nat):Int) 0):Nat):Int)==(120:Int))))])=d11.2/\false=(List.isEmpty d11.2))/\(True/\(([]:List SV)=[]))/\(True/\(([]:List SV)=[]))/\True))/\q9 d11)) /\
      ((((UInt8.toNat (gD e9.2.2.1 ((d9.1:Nat):Int) 0):Nat):Int) != ((UInt8.toNat (gD (gD e9.1 e9.2.1 []) ((d9.1:Nat):Int) 0):Nat):Int))=false ->
       (∃ d12:Nat×(List (Int×Int×Bool)),((True/\True/\e9.2.1=e9.2.1/\e9.2.2.1=e9.2.2.1/\True/\(pj4 e9).1=(pj4 e9).1/\(pj4 e9).2.1=(pj4 e9).2.1/\True/\True)/\((True/\(([]:List SV)=[]))/\(e9.1=e9.1/\(List.isEmpty e9.1)=(List.isEmpty e9.1))/\(e9.2.2.2.1=e9.2.2.2.1/\(List.isEmpty e9.2.2.2.1)=(List.isEmpty e9.2.2.2.1))/\((pj4 e9).2.2.1=(pj4 e9).2.2.1/\d12.1=(d9.1+1))/\((pj4 (Q2 (Q2 e9))).2.2=(pj4 (Q2 (Q2 e9))).2.2/\(((pj4 e9).2.2.2.1=(pj4 e9).2.2.2.1/\(pj8 e9).1=(pj8 e9).1/\(pj8 e9).2.1=(pj8 e9).2.1/\(pj8 e9).2.2.1=(pj8 e9).2.2.1/\(([]:List SV)=[]))/\(pj8 e9).2.2.2.1=(pj8 e9).2.2.2.1/\(pj4 (pj8 e9)).1=(pj4 (pj8 e9)).1/\True/\True/\True/\True/\(Q2 e9).2.1=(Q2 e9).2.1/\True/\True/\(Q2 e9).2.2.1=(Q2 e9).2.2.1/\True/\True/\(True/\(Q2 e9).2.2.2.1=(Q2 e9).2.2.2.1/\(([]:List SV)=[]))/\((pj4 (Q2 e9)).1=(pj4 (Q2 e9)).1/\(pj4 (Q2 e9)).2.1=(pj4 (Q2 e9)).2.1/\(pj4 (Q2 e9)).2.2.1=(pj4 (Q2 e9)).2.2.1/\(pj4 (Q2 e9)).2.2.2.1=(pj4 (Q2 e9)).2.2.2.1/\(([]:List SV)=[]))/\(pj8 (Q2 e9)).1=(pj8 (Q2 e9)).1/\(pj8 (Q2 e9)).2.1=(pj8 (Q2 e9)).2.1/\(True/\(pj8 (Q2 e9)).2.2.1=(pj8 (Q2 e9)).2.2.1/\(([]:List SV)=[]))/\True/\(pj8 (Q2 e9)).2.2.2.1=(pj8 (Q2 e9)).2.2.2.1/\(pj4 (pj8 (Q2 e9))).1=(pj4 (pj8 (Q2 e9))).1/\(pj4 (pj8 (Q2 e9))).2.1=(pj4 (pj8 (Q2 e9))).2.1/\True/\(True/\(pj4 (pj8 (Q2 e9))).2.2.1=(pj4 (pj8 (Q2 e9))).2.2.1/\(([]:List SV)=[]))/\((pj4 (pj8 (Q2 e9))).2.2.2.1=(pj4 (pj8 (Q2 e9))).2.2.2.1/\(Q2 (Q2 e9)).1=(Q2 (Q2 e9)).1/\(Q2 (Q2 e9)).2.1=(Q2 (Q2 e9)).2.1/\(Q2 (Q2 e9)).2.2.1=(Q2 (Q2 e9)).2.2.1/\(([]:List SV)=[]))/\(Q2 (Q2 e9)).2.2.2.1=(Q2 (Q2 e9)).2.2.2.1/\(True/\(pj4 (Q2 (Q2 e9))).1=(pj4 (Q2 (Q2 e9))).1/\(([]:List SV)=[]))/\True/\(pj4 (Q2 (Q2 e9))).2.1=(pj4 (Q2 (Q2 e9))).2.1/\True/\True/\(((([]:List SV)=[]))/\(True/\True/\(([]:List SV)=[])))/\True/\True/\True/\True/\True/\True/\True/\True/\True/\True/\True/\True/\True/\True/\True/\True/\(([]:List SV)=[])))/\((pj4 (pj8 e9)).2.1=(pj4 (pj8 e9)).2.1/\(pj4 (pj8 e9)).2.2.1=(pj4 (pj8 e9)).2.2.1/\(pj4 (pj8 e9)).2.2.2.1=(pj4 (pj8 e9)).2.2.2.1/\(Q2 e9).1=(Q2 e9).1/\(([]:List SV)=[]))/\(True/\(([]:List SV)=[]))/\(d9.2=d12.2/\(List.isEmpty d9.2)=(List.isEmpty d12.2))/\(True/\(([]:List SV)=[]))/\(True/\(([]:List SV)=[]))/\True))/\q9 d12)))) /\
     ((List.length (pj4 e9).2.2.1)<=d9.1 ->
      (I64 ((pj4 e9).2.1+(1:Int)))/\(∃ d13:Int×(List (Int×Int×Bool)),((True/\True/\True/\(pj4 e9).1=e6.2.2.1/\((pj4 e9).2.1+(1:Int))=d13.1/\True)/\((True/\(([]:List SV)=[]))/\(e9.1=e6.1/\(List.isEmpty e9.1)=(List.isEmpty e6.1))/\(e9.2.2.2.1=e6.2.1/\(List.isEmpty e9.2.2.2.1)=(List.isEmpty e6.2.1))/\((Q2 (Q2 e6)).2.2=(pj4 (Q2 (Q2 e9))).2.2/\(((pj4 e9).2.2.2.1=e6.2.2.2.1/\(pj8 e9).1=(pj4 e6).1/\(pj8 e9).2.1=(pj4 e6).2.1/\(pj8 e9).2.2.1=(pj4 e6).2.2.1/\(([]:List SV)=[]))/\(pj8 e9).2.2.2.1=(pj4 e6).2.2.2.1/\(pj4 (pj8 e9)).1=(pj8 e6).1/\True/\True/\True/\True/\(Q2 e9).2.1=(pj4 (pj8 e6)).2.1/\True/\True/\(Q2 e9).2.2.1=(pj4 (pj8 e6)).2.2.1/\True/\True/\(True/\(Q2 e9).2.2.2.1=(pj4 (pj8 e6)).2.2.2.1/\(([]:List SV)=[]))/\((pj4 (Q2 e9)).1=(Q2 e6).1/\(pj4 (Q2 e9)).2.1=(Q2 e6).2.1/\(pj4 (Q2 e9)).2.2.1=(Q2 e6).2.2.1/\(pj4 (Q2 e9)).2.2.2.1=(Q2 e6).2.2.2.1/\(([]:List SV)=[]))/\(pj8 (Q2 e9)).1=(pj4 (Q2 e6)).1/\(pj8 (Q2 e9)).2.1=(pj4 (Q2 e6)).2.1/\(True/\(pj8 (Q2 e9)).2.2.1=(pj4 (Q2 e6)).2.2.1/\(([]:List SV)=[]))/\True/\(pj8 (Q2 e9)).2.2.2.1=(pj4 (Q2 e6)).2.2.2.1/\(pj4 (pj8 (Q2 e9))).1=(pj8 (Q2 e6)).1/\(pj4 (pj8 (Q2 e9))).2.1=(pj8 (Q2 e6)).2.1/\True/\(True/\(pj4 (pj8 (Q2 e9))).2.2.1=(pj8 (Q2 e6)).2.2.1/\(([]:List SV)=[]))/\((pj4 (pj8 (Q2 e9))).2.2.2.1=(pj8 (Q2 e6)).2.2.2.1/\(Q2 (Q2 e9)).1=(pj4 (pj8 (Q2 e6))).1/\(Q2 (Q2 e9)).2.1=(pj4 (pj8 (Q2 e6))).2.1/\(Q2 (Q2 e9)).2.2.1=(pj4 (pj8 (Q2 e6))).2.2.1/\(([]:List SV)=[]))/\(Q2 (Q2 e9)).2.2.2.1=(pj4 (pj8 (Q2 e6))).2.2.2.1/\(True/\(pj4 (Q2 (Q2 e9))).1=(Q2 (Q2 e6)).1/\(([]:List SV)=[]))/\True/\(pj4 (Q2 (Q2 e9))).2.1=(Q2 (Q2 e6)).2.1/\True/\True/\(((([]:List SV)=[]))/\(True/\True/\(([]:List SV)=[])))/\True/\True/\True/\True/\True/\True/\True/\True/\True/\True/\True/\True/\True/\True/\True/\True/\(([]:List SV)=[])))/\((pj4 (pj8 e9)).2.1=(pj8 e6).2.1/\(pj4 (pj8 e9)).2.2.1=(pj8 e6).2.2.1/\(pj4 (pj8 e9)).2.2.2.1=(pj8 e6).2.2.2.1/\(Q2 e9).1=(pj4 (pj8 e6)).1/\(([]:List SV)=[]))/\(True/\(([]:List SV)=[]))/\(d9.2=d13.2/\(List.isEmpty d9.2)=(List.isEmpty d13.2))/\(True/\(([]:List SV)=[]))/\(True/\(([]:List SV)=[]))/\True))/\q6 d13)))) d90) /\
   ((decide (d6.1<e6.2.2.1))=false ->
    (Q2 (Q2 e6)).2.2=w2/\((True/\(0:Int)=Qr hk lw hd rows ds n/\(([]:List SV)=[]))/\((d6.2=(RJ hk lw hd rows ds n)/\(List.isEmpty d6.2)=(RJ hk lw hd rows ds n).isEmpty)/\True)))) d60)
def X_:Cx:=⟨[],[],6,[],0,[],[],[],[],false,[],[],[],[]⟩
def W0:List (Nat×LoopAnn):=[]
def XB:Cx:=⟨[],[],37,[3000017,3000035],0,[],[],[],[],false,[],[],[17,29,35],[]⟩
def XA:List (Nat×LoopAnn):=[(0,⟨(List (List UInt8))×(List (List UInt8))×Int×Int×(List Int)×Int×(List Int)×(List (Int×Int×Int×Int×Bool))×Int×Int×(List Int)×Int×(List Int)×Int×Int×Int×Int×(List Int)×Int×(List Int)×(List (Int×Int×Int×Int×Bool))×Int×Int×Int×Int×Bool×Int×Int×(List Int)×Int×(List Int)×Int×Int×Int×LpD,Int×(List (Int×Int×Bool)),[0,2,7,8,9],λe x=>[.dd 2000000 .yv,.box 3200003 0,.lst 17,.val (.i .i64) e.2.2.1,.val (.i .i64) x.1],λe x=>[(3200003,.slot 2,.cells [.lst 26] (some 48)),(26,.cell 3200003 0,.lst 9 .st e.1 (List.isEmpty e.1)),(17,.slot 7,.lst 9 .st e.2.1 (List.isEmpty e.2.1)),(2000000,.key 2000000,.lpf [.agg [.val (.i .i64) e.2.2.2.1,.val (.list (.i .i64)) e.2.2.2.2.1,.val (.i .i64) e.2.2.2.2.2.1,.val (.list (.i .i64)) e.2.2.2.2.2.2.1],.val (.list (.pair (.i .i64) (.pair (.i .i64) (.pair (.i .i64) (.pair (.i .i64) .bo))))) e.2.2.2.2.2.2.2.1,.val (.i .i64) e.2.2.2.2.2.2.2.2.1,.box 3 0,.any,.any,.box 6 0,.val (.i .i64) e.2.2.2.2.2.2.2.2.2.2.2.2.2.1,.box 8 0,.lst 26,.val (.i .i64) e.2.2.2.2.2.2.2.2.2.2.2.2.2.2.1,.any,.any,.tup [.lst 17,.val (.i .i64) e.2.2.2.2.2.2.2.2.2.2.2.2.2.2.2.1],.agg [.val (.i .i64) e.2.2.2.2.2.2.2.2.2.2.2.2.2.2.2.2.1,.val (.list (.i .i64)) e.2.2.2.2.2.2.2.2.2.2.2.2.2.2.2.2.2.1,.val (.i .i64) e.2.2.2.2.2.2.2.2.2.2.2.2.2.2.2.2.2.2.1,.val (.list (.i .i64)) e.2.2.2.2.2.2.2.2.2.2.2.2.2.2.2.2.2.2.2.1],.val (.list (.pair (.i .i64) (.pair (.i .i64) (.pair (.i .i64) (.pair (.i .i64) .bo))))) e.2.2.2.2.2.2.2.2.2.2.2.2.2.2.2.2.2.2.2.2.1,.val (.i .i64) e.2.2.2.2.2.2.2.2.2.2.2.2.2.2.2.2.2.2.2.2.2.1,.tup [.lst 17,.val (.i .i64) e.2.2.2.2.2.2.2.2.2.2.2.2.2.2.2.2.2.2.2.2.2.2.1],.lst 17,.val (.i .i64) e.2.2.2.2.2.2.2.2.2.2.2.2.2.2.2.2.2.2.2.2.2.2.2.1,.val (.i .i64) e.2.2.2.2.2.2.2.2.2.2.2.2.2.2.2.2.2.2.2.2.2.2.2.2.1,.val .bo e.2.2.2.2.2.2.2.2.2.2.2.2.2.2.2.2.2.2.2.2.2.2.2.2.2.1,.any,.tup [.lst 26,.val (.i .i64) e.2.2.2.2.2.2.2.2.2.2.2.2.2.2.2.2.2.2.2.2.2.2.2.2.2.2.1],.agg [.val (.i .i64) e.2.2.2.2.2.2.2.2.2.2.2.2.2.2.2.2.2.2.2.2.2.2.2.2.2.2.2.1,.val (.list (.i .i64)) e.2.2.2.2.2.2.2.2.2.2.2.2.2.2.2.2.2.2.2.2.2.2.2.2.2.2.2.2.1,.val (.i .i64) e.2.2.2.2.2.2.2.2.2.2.2.2.2.2.2.2.2.2.2.2.2.2.2.2.2.2.2.2.2.1,.val (.list (.i .i64)) e.2.2.2.2.2.2.2.2.2.2.2.2.2.2.2.2.2.2.2.2.2.2.2.2.2.2.2.2.2.2.1],.val (.i .i64) e.2.2.2.2.2.2.2.2.2.2.2.2.2.2.2.2.2.2.2.2.2.2.2.2.2.2.2.2.2.2.2.1,.tup [.lst 26,.val (.i .i64) e.2.2.2.2.2.2.2.2.2.2.2.2.2.2.2.2.2.2.2.2.2.2.2.2.2.2.2.2.2.2.2.2.1],.lst 26,.val (.i .i64) e.2.2.2.2.2.2.2.2.2.2.2.2.2.2.2.2.2.2.2.2.2.2.2.2.2.2.2.2.2.2.2.2.2.1,.lst 17,.lst 26,.fn 40 [] [.box 3200002 0,.box 3200003 0],.any,.any,.any,.any,.any,.any,.any,.any,.any,.any,.any,.any,.any,.any,.any,.any] e.2.2.2.2.2.2.2.2.2.2.2.2.2.2.2.2.2.2.2.2.2.2.2.2.2.2.2.2.2.2.2.2.2.2 .rdy),(3,.key 3,.cells [.val (.i .i64) e.2.2.2.2.2.2.2.2.2.1,.val (.list (.i .i64)) e.2.2.2.2.2.2.2.2.2.2.1,.val (.i .i64) e.2.2.2.2.2.2.2.2.2.2.2.1,.val (.list (.i .i64)) e.2.2.2.2.2.2.2.2.2.2.2.2.1] (some 33)),(6,.key 6,.cells [.lst 46] (some 43)),(46,.cell 6 0,.lst 52 (.pair (.i .i64) (.pair (.i .i64) .bo)) x.2 (List.isEmpty x.2)),(8,.key 8,.cells [.lst 17] (some 48)),(3200002,.key 3200002,.cells [.lst 17] (some 48))]⟩),
 (2,⟨(List (List UInt8))×Int×(List UInt8)×(List (List UInt8))×Int×Int×(List UInt8)×Int×(List Int)×Int×(List Int)×(List (Int×Int×Int×Int×Bool))×Int×Int×(List Int)×Int×(List Int)×Int×Int×Int×Int×(List Int)×Int×(List Int)×(List (Int×Int×Int×Int×Bool))×Int×Int×Int×Int×Bool×Int×Int×(List Int)×Int×(List Int)×Int×Int×Int×LpD,Nat×(List (Int×Int×Bool)),[0,2,4,5,7,8,9,15],λe x=>[.dd 2000000 .yv,.box 3200003 0,.val (.i .i64) e.2.1,.val .st e.2.2.1,.lst 17,.val (.i .i64) e.2.2.2.2.1,.val (.i .i64) e.2.2.2.2.2.1,.box 200000100015 0],λe x=>[(3200003,.slot 2,.cells [.lst 26] (some 48)),(26,.cell 3200003 0,.lst 9 .st e.1 (List.isEmpty e.1)),(17,.slot 7,.lst 9 .st e.2.2.2.1 (List.isEmpty e.2.2.2.1)),(200000100015,.slot 15,.siter e.2.2.2.2.2.2.1 x.1),(2000000,.key 2000000,.lpf [.agg [.val (.i .i64) e.2.2.2.2.2.2.2.1,.val (.list (.i .i64)) e.2.2.2.2.2.2.2.2.1,.val (.i .i64) e.2.2.2.2.2.2.2.2.2.1,.val (.list (.i .i64)) e.2.2.2.2.2.2.2.2.2.2.1],.val (.list (.pair (.i .i64) (.pair (.i .i64) (.pair (.i .i64) (.pair (.i .i64) .bo))))) e.2.2.2.2.2.2.2.2.2.2.2.1,.val (.i .i64) e.2.2.2.2.2.2.2.2.2.2.2.2.1,.box 3 0,.any,.any,.box 6 0,.val (.i .i64) e.2.2.2.2.2.2.2.2.2.2.2.2.2.2.2.2.2.1,.box 8 0,.lst 26,.val (.i .i64) e.2.2.2.2.2.2.2.2.2.2.2.2.2.2.2.2.2.2.1,.any,.any,.tup [.lst 17,.val (.i .i64) e.2.2.2.2.2.2.2.2.2.2.2.2.2.2.2.2.2.2.2.1],.agg [.val (.i .i64) e.2.2.2.2.2.2.2.2.2.2.2.2.2.2.2.2.2.2.2.2.1,.val (.list (.i .i64)) e.2.2.2.2.2.2.2.2.2.2.2.2.2.2.2.2.2.2.2.2.2.1,.val (.i .i64) e.2.2.2.2.2.2.2.2.2.2.2.2.2.2.2.2.2.2.2.2.2.2.1,.val (.list (.i .i64)) e.2.2.2.2.2.2.2.2.2.2.2.2.2.2.2.2.2.2.2.2.2.2.2.1],.val (.list (.pair (.i .i64) (.pair (.i .i64) (.pair (.i .i64) (.pair (.i .i64) .bo))))) e.2.2.2.2.2.2.2.2.2.2.2.2.2.2.2.2.2.2.2.2.2.2.2.2.1,.val (.i .i64) e.2.2.2.2.2.2.2.2.2.2.2.2.2.2.2.2.2.2.2.2.2.2.2.2.2.1,.tup [.lst 17,.val (.i .i64) e.2.2.2.2.2.2.2.2.2.2.2.2.2.2.2.2.2.2.2.2.2.2.2.2.2.2.1],.lst 17,.val (.i .i64) e.2.2.2.2.2.2.2.2.2.2.2.2.2.2.2.2.2.2.2.2.2.2.2.2.2.2.2.1,.val (.i .i64) e.2.2.2.2.2.2.2.2.2.2.2.2.2.2.2.2.2.2.2.2.2.2.2.2.2.2.2.2.1,.val .bo e.2.2.2.2.2.2.2.2.2.2.2.2.2.2.2.2.2.2.2.2.2.2.2.2.2.2.2.2.2.1,.any,.tup [.lst 26,.val (.i .i64) e.2.2.2.2.2.2.2.2.2.2.2.2.2.2.2.2.2.2.2.2.2.2.2.2.2.2.2.2.2.2.1],.agg [.val (.i .i64) e.2.2.2.2.2.2.2.2.2.2.2.2.2.2.2.2.2.2.2.2.2.2.2.2.2.2.2.2.2.2.2.1,.val (.list (.i .i64)) e.2.2.2.2.2.2.2.2.2.2.2.2.2.2.2.2.2.2.2.2.2.2.2.2.2.2.2.2.2.2.2.2.1,.val (.i .i64) e.2.2.2.2.2.2.2.2.2.2.2.2.2.2.2.2.2.2.2.2.2.2.2.2.2.2.2.2.2.2.2.2.2.1,.val (.list (.i .i64)) e.2.2.2.2.2.2.2.2.2.2.2.2.2.2.2.2.2.2.2.2.2.2.2.2.2.2.2.2.2.2.2.2.2.2.1],.val (.i .i64) e.2.2.2.2.2.2.2.2.2.2.2.2.2.2.2.2.2.2.2.2.2.2.2.2.2.2.2.2.2.2.2.2.2.2.2.1,.tup [.lst 26,.val (.i .i64) e.2.2.2.2.2.2.2.2.2.2.2.2.2.2.2.2.2.2.2.2.2.2.2.2.2.2.2.2.2.2.2.2.2.2.2.2.1],.lst 26,.val (.i .i64) e.2.2.2.2.2.2.2.2.2.2.2.2.2.2.2.2.2.2.2.2.2.2.2.2.2.2.2.2.2.2.2.2.2.2.2.2.2.1,.lst 17,.lst 26,.fn 40 [] [.box 3200002 0,.box 3200003 0],.any,.any,.any,.any,.any,.any,.any,.any,.any,.any,.any,.any,.any,.any,.any,.any] e.2.2.2.2.2.2.2.2.2.2.2.2.2.2.2.2.2.2.2.2.2.2.2.2.2.2.2.2.2.2.2.2.2.2.2.2.2.2 .rdy),(3,.key 3,.cells [.val (.i .i64) e.2.2.2.2.2.2.2.2.2.2.2.2.2.1,.val (.list (.i .i64)) e.2.2.2.2.2.2.2.2.2.2.2.2.2.2.1,.val (.i .i64) e.2.2.2.2.2.2.2.2.2.2.2.2.2.2.2.1,.val (.list (.i .i64)) e.2.2.2.2.2.2.2.2.2.2.2.2.2.2.2.2.1] (some 33)),(6,.key 6,.cells [.lst 46] (some 43)),(46,.cell 6 0,.lst 52 (.pair (.i .i64) (.pair (.i .i64) .bo)) x.2 (List.isEmpty x.2)),(8,.key 8,.cells [.lst 17] (some 48)),(3200002,.key 3200002,.cells [.lst 17] (some 48))]⟩)]
def DH:Cx:=⟨[(52,(.pair (.i .i64) (.pair (.i .i64) .bo)))],[(9,CSp.or Vq XG)],48,[],0,[(22,AX X_ (λ_=>W0) c22 [.tmp 4] 6)],[],[],[],false,[],[(40,Z6c XB XA c40 37)],[],[]⟩
def Li (hk:Int) (lw:List Int) (hd:Int) (rows:List Int) (ds:List (Int×Int×Int×Int×Bool)) (n:Int):List (Nat×LoopAnn):=[]
theorem L7 (d:(Int×List Int×Int×List Int)×(List (Int×Int×Int×Int×Bool))×Int):gwp (DH) (Li d.1.1 d.1.2.1 d.1.2.2.1 d.1.2.2.2 d.2.1 d.2.2) c7 0 (YI [.cell 6 false 1,.tmp 7] (Gc d) (GB d)) (Qv 48 (AL.can D_ d))=Kd d.1.1 d.1.2.1 d.1.2.2.1 d.1.2.2.2 d.2.1 d.2.2:=by kernel_rfl
abbrev LN:Prop:=OkC Tryz.prog 7 Mb
theorem SX (h:∀ (hk:Int) (lw:List Int) (hd:Int) (rows:List Int) (ds:List (Int×Int×Int×Int×Bool)) (n:Int),(lw.length<=110/\rows.length<=110/\ds.length=1)->Kd hk lw hd rows ds n):OkC Tryz.prog 7 Mb :=
 QB Z52 mixed (C:=DH) (V:=λ(d:(Int×List Int×Int×List Int)×(List (Int×Int×Int×Int×Bool))×Int)=>Kd d.1.1 d.1.2.1 d.1.2.2.1 d.1.2.2.2 d.2.1 d.2.2) ⟨(.cons (OkC.or DK VU) .nil),(XsOk.cons (Wh Q9k mixed (C:=X_) ⟨.nil,XsOk.nil,ItsOk.nil,YlOk.nil,IysOk.nil,XfOk.nil⟩ (λ_=>W0)) XsOk.nil),ItsOk.nil,YlOk.nil,(IysOk.cons (Q8t Z0c mixed (C:=XB) ⟨.nil,XsOk.nil,ItsOk.nil,YlOk.nil,IysOk.nil,XfOk.nil⟩ XA) IysOk.nil),XfOk.nil⟩ (L7) λd hp=>h d.1.1 d.1.2.1 d.1.2.2.1 d.1.2.2.2 d.2.1 d.2.2 hp
theorem Lb:LN:=SX λhk lw hd rows ds n h=>by
 obtain⟨dM,bT,hl⟩:=h;unfold Kd;(try delta lI gD sT I64 Q2 pj8 pj4);refine⟨⟨dM,bT,hl⟩,λh1=>?_,λh1=>⟨⟨dM,bT⟩,λw1=>⟨rfl,λw2=>?_⟩⟩⟩
 .have h1:Qr hk lw hd rows ds n≠0:=by simpa using h1
  have e:RJ hk lw hd rows ds n=[]:=by unfold RJ;rw[z6 h1]
  rw[e];exact(by and_intros<;>first|rfl|trivial|simp)
 .have h1:Qr hk lw hd rows ds n=0:=by simpa using h1
  have h0:=Il h1;obtain⟨hw,hz,eT,dD⟩:=HK h1;obtain⟨N,rfl⟩:=zu (show 0<=n by omega);obtain⟨a1,a2⟩:=Q6t h1;obtain⟨b1,b2⟩:=Q6t h0;have ef:RJ hk lw hd rows ds (N:Int)=Q91 (Uu hk lw hd rows ds (N:Int)) (Uu hk lw hd rows [] (N:Int)):=by unfold RJ Uu;rw[z7 h1,z7 h1,z7 h0]
  rw[h1,h0,ef];clear ef;generalize Uu hk lw hd rows ds (N:Int)=A at *
  generalize Uu hk lw hd rows [] (N:Int)=B at *
  rw[zg] at a1 b1;refine⟨(B,A,(A.length:Int),hk,lw,hd,rows,ds,(N:Int),hk,lw,hd,rows,0,0,0,hk,lw,hd,rows,ds,(N:Int),0,0,0,((0:Int) != 0),0,hk,lw,hd,rows,(N:Int),0,0,w2),(0,[]),(by and_intros<;>first|rfl|trivial|simp),?_⟩;dsimp only;have hA:∀ i,i<N->(A.getD i []).length=lw.length/\∀ b∈A.getD i [],b=46\/b=120:=λi hi=>by rw[Qj (by omega)];exact a2 _ (zk _)
  have hB:∀ i,i<N->(B.getD i []).length=lw.length:=λi hi=>by rw[Qj (by omega)];exact(b2 _ (zk _)).1
  refine LoopP.count1 N (λk x=>x=HV A B k) rfl (λk x hkN hx q hq=>?_);subst hx;dsimp only;simp only[zg];refine⟨λc=>?_,λc=>?_⟩
  .have c:k<N:=by
    have:(k:Int)<A.length:=by simpa using c
    omega
   have vA:=Ew A B a2 k (by omega);have hq:=hq _ c rfl;rw[C6] at hq;obtain⟨nR,uF⟩:=hA k c;have vB:=hB k c;have ph:lw.length*k<=110*120:=Nat.mul_le_mul dM (by omega);generalize HV A B k=L at *
   refine⟨by omega,by omega,(B,(k:Int),A.getD k [],A,(A.length:Int),(k:Int),A.getD k [],hk,lw,hd,rows,ds,(N:Int),hk,lw,hd,rows,0,0,0,hk,lw,hd,rows,ds,(N:Int),0,0,0,((0:Int) != 0),0,hk,lw,hd,rows,(N:Int),0,0,w2),(0,L),(by and_intros<;>first|rfl|trivial|simp),?_⟩;dsimp only;simp only[zg];generalize A.getD k []=S at *
   generalize B.getD k []=T at *
   refine⟨λd=>d.1<=S.length/\d.2=L++Ft k S T d.1,λd=>S.length-d.1,⟨by simp,by simp[Ft]⟩,?_⟩;rintro⟨p,x⟩ ⟨hp,hx⟩;dsimp only at hp hx |-;have vC:=ER k S T p;refine⟨λc2=>?_,λc2=>?_⟩
   .have oF:=Q0s k S T p;rw[Z03,Q8a];have vD:x.length<=20000:=by rw[hx,zH];omega
    have hb:(S.getD p 0).toNat<128:=by rw[Qj c2];rcases uF _ (zk c2) with e|e<;>rw[e]<;>decide
    refine⟨hb,by omega,by omega,by omega,by omega,by omega,by omega,λhd1=>?_,λhd1=>?_⟩
    .rw[z7 hd1] at oF;refine⟨trivial,λqs=>⟨by omega,by omega,by omega,by omega,by simp only[x9,List.length_nil];omega,trivial,trivial,(p+1,x++[((k:Int),((p:Int),S.getD p 0==120))]),(by and_intros<;>first|rfl|trivial|simp),⟨⟨by dsimp only;omega,?_⟩,by dsimp only;omega⟩⟩⟩;dsimp only;rw[oF,hx,zU]
    .rw[z6 (by rw[hd1];simp),xk] at oF;exact⟨(p+1,x),(by and_intros<;>first|rfl|trivial|simp),⟨by dsimp only;omega,by dsimp only;rw[oF,hx]⟩,by dsimp only;omega⟩
   .have mK:p=S.length:=by omega
    rw[<-mK,<-hx] at hq;exact⟨by rw[QD];omega,((k:Int)+1,x),(by and_intros<;>first|rfl|trivial|simp),hq⟩
  .have c:k=N:=by
    have:¬ (k:Int)<A.length:=by simpa using c
    omega
   have e:HV A B k=Q91 A B:=by unfold Q91;rw[c,a1];rfl
   rw[e];exact(by and_intros<;>first|rfl|trivial|simp)
def Q2t (s:List UInt8):Bool:=s.all λb=>b==120||b==46
def JF (c:List (List UInt8)) (n:Int):Int:=if 60<c.length then 5 else if c.length=0 then 7 else if !inI n 1 96||c.any (λs=>decide ((s.length:Int)≠n)||!Q2t s) then 4 else 0
def KE (hk:Int) (lw:List Int) (c:List (List UInt8)):Int:=if Zp hk lw≠0 then Zp hk lw else JF c lw.length
def Q13 (lw:List Int) (h:Int):Nat:=lw.findIdx (·==h)
def Q21 (lw:List Int):Nat->List (Int×Int)
 |0=>[]
 |j+1=>Q14 (.i .i64) (Q21 lw j) (lw.getD (lw.length-1-j) 0) ((lw.length:Int)-1-j)
def AV (lw:List Int):List (Int×Int):=Q21 lw lw.length
def Q43 (lw:List Int) (s:List UInt8) (w:Nat):Bool:=s.getD w 0 != s.getD (Q13 lw (lw.getD w 0)) 0
def Lk (lw:List Int) (s:List UInt8):Option Nat:=(List.range lw.length).find? (Q43 lw s)
def Pa (lw:List Int) (c:List (List UInt8)):Option (Nat×Nat):=(List.range c.length).findSome? λi=>(Lk lw (c.getD i [])).map λw=>(i,w)
def Rj (lw:List Int) (c:List (List UInt8)):Int×Int×Int:=match Pa lw c with|some (i,w)=>((i:Int),(w:Int),(Q13 lw (lw.getD w 0):Int))|none=>(0,0,0)
def H7 (lw:List Int) (s:List UInt8):Nat->Nat
 |0=>0
 |k+1=>if s.getD k 0=120 then H7 lw s k ||| (1 <<< (lw.getD k 0).toNat) else H7 lw s k
def Z34 (lw:List Int) (s:List UInt8):Nat:=H7 lw s lw.length
def Pz (lw:List Int) (c:List (List UInt8)):List Int:=c.map λs=>((Z34 lw s:Nat):Int)
def Cb (hk:Int) (lw:List Int) (c:List (List UInt8)):Int:=if KE hk lw c≠0 then KE hk lw c else if (Pa lw c).isSome then 9 else 0
def Fv (hk:Int) (lw:List Int) (c:List (List UInt8)):List Int:=if Cb hk lw c=0 then Pz lw c else []
theorem Df (a:Int) (b:Int) (m:List (Int×Int)) (e:Int) (d:Int):gq.aget (.i .i64) ((a,b)::m) e d=if e=a then b else gq.aget (.i .i64) m e d:=by show (if (e==a)=true then b else gq.aget (.i .i64) m e d)=_;simp only[zF]
theorem OO (a:Int) (b:Int) (m:List (Int×Int)) (k:Int) (v:Int):Q14 (.i .i64) ((a,b)::m) k v=if k=a then (k,v)::m else (a,b)::Q14 (.i .i64) m k v:=by show (if (k==a)=true then (k,v)::m else (a,b)::Q14 (.i .i64) m k v)=_;simp only[zF]
theorem OD (m:List (Int×Int)) (k:Int) (v:Int) (e:Int) (d:Int):gq.aget (.i .i64) (Q14 (.i .i64) m k v) e d=if e=k then v else gq.aget (.i .i64) m e d:=by
 induction m with
 |nil=>exact Df k v [] e d
 |cons p m ih =>
  obtain⟨a,b⟩:=p;rw[OO,Df];by_cases h:k=a
  .subst h;rw[z7 rfl,Df];split<;>rfl
  .rw[z6 h,Df,ih];by_cases h2:e=a
   .subst h2;rw[z7 rfl,z6 (Ne.symm h),z7 rfl]
   .rw[z6 h2,z6 h2]
theorem Au {lw:List Int}{h:Int}(hm:h∈lw):Q13 lw h<lw.length:=List.findIdx_lt_length_of_exists ⟨h,hm,by simp⟩
theorem Q1x {lw:List Int}{h:Int}(hm:h∈lw):lw.getD (Q13 lw h) 0=h:=by rw[Qj (Au hm)];have:=List.findIdx_getElem (xs:=lw) (p:=(·==h)) (w:=Au hm);exact eq_of_beq this
theorem Q68 {lw:List Int}{h:Int}{i:Nat}(hi:i<Q13 lw h):lw.getD i 0≠h:=by have hl:i<lw.length:=zV hi List.findIdx_le_length;rw[Qj hl];have:=List.not_of_lt_findIdx hi;simpa using this
theorem Q80 {lw:List Int}{h:Int}{m:Nat}(hm:m<lw.length) (h1:lw.getD m 0=h) (h2:∀ i,i<m->lw.getD i 0≠h):Q13 lw h=m:=by
 have aY:h∈lw:=by rw[Qj hm] at h1;exact h1▸zk hm
 rcases Nat.lt_trichotomy (Q13 lw h) m with h3|h3|h3
 .exact(h2 _ h3 (Q1x aY)).elim
 .exact h3
 .exact(Q68 h3 h1).elim
theorem E5 (lw:List Int):∀ j,j<=lw.length->∀ h,(∃ w,lw.length-j<=w/\w<lw.length/\lw.getD w 0=h) ->
  ∃ m,lw.length-j<=m/\m<lw.length/\lw.getD m 0=h/\(∀ i,lw.length-j<=i->i<m->lw.getD i 0≠h)/\gq.aget (.i .i64) (Q21 lw j) h 0=(m:Int)
 |0,_,h,⟨w,h1,h2,_⟩=>by omega
 |j+1,hj,h,⟨w,h1,h2,h3⟩=>by
  simp only[Q21,OD];by_cases he:h=lw.getD (lw.length-1-j) 0
  .refine⟨lw.length-1-j,by omega,by omega,he.symm,λi h4 h5=>by omega,?_⟩;rw[z7 he];omega
  .have hw:lw.length-j<=w:=by
    rcases zl w (lw.length-j) with h4|h4
    .have:w=lw.length-1-j:=by omega
     subst this;exact(he h3.symm).elim
    .exact h4
   obtain⟨m,k1,k2,k3,k4,k5⟩:=E5 lw j (by omega) h ⟨w,hw,h2,h3⟩;refine⟨m,by omega,k2,k3,λi h4 h5=>?_,by rw[z6 he];exact k5⟩;rcases zl i (lw.length-j) with h6|h6
   .have:i=lw.length-1-j:=by omega
    subst this;exact Ne.symm he
   .exact k4 i h6 h5
theorem Q63 {lw:List Int}{w:Nat}(hw:w<lw.length):gq.aget (.i .i64) (AV lw) (lw.getD w 0) 0=(Q13 lw (lw.getD w 0):Int):=by obtain⟨m,k1,k2,k3,k4,k5⟩:=E5 lw lw.length (zd _) (lw.getD w 0) ⟨w,by omega,hw,rfl⟩;unfold AV;rw[k5,Q80 k2 k3 λi hi=>k4 i (by omega) hi]
theorem Xc {lw:List Int}{w:Nat}(hw:w<lw.length):lw.getD w 0∈lw:=by rw[Qj hw];exact zk hw
theorem C3 {lw:List Int}{c:List (List UInt8)}:Pa lw c=none<->∀ i,i<c.length->Lk lw (c.getD i [])=none:=by simp only[Pa,List.findSome?_eq_none_iff,x8,Option.map_eq_none_iff]
theorem Cv {lw:List Int}{s:List UInt8}:Lk lw s=none<->∀ w,w<lw.length->s.getD w 0=s.getD (Q13 lw (lw.getD w 0)) 0:=by simp only[Lk,List.find?_range_eq_none,Q43,Bool.not_eq_true',bne_eq_false_iff_eq]
theorem Q0z {lw:List Int}{c:List (List UInt8)}{i w:Nat}(hi:i<c.length) (hp:∀ j,j<i->Lk lw (c.getD j [])=none) (hw:Lk lw (c.getD i [])=some w):Pa lw c=some (i,w):=by
 unfold Pa;have e:List.range c.length=List.range i++(i::(List.range' (i+1) (c.length-i-1))):=by have h2:=List.range'_append_1 (s:=0) (m:=i) (n:=c.length-i);rw[zS,show i+(c.length-i)=c.length by omega] at h2;rw[List.range_eq_range',List.range_eq_range',<-List.range'_succ,show c.length-i-1+1=c.length-i by omega,h2]
 rw[e,List.findSome?_append];have h1:List.findSome? (λi=>(Lk lw (c.getD i [])).map λw=>(i,w)) (List.range i)=none:=by simp only[List.findSome?_eq_none_iff,x8,Option.map_eq_none_iff];exact hp
 rw[h1,List.findSome?_cons,hw];rfl
theorem ON {lw:List Int}{s:List UInt8}{w:Nat}(hw:w<lw.length) (hp:∀ j,j<w->s.getD j 0=s.getD (Q13 lw (lw.getD j 0)) 0) (h:s.getD w 0≠s.getD (Q13 lw (lw.getD w 0)) 0):Lk lw s=some w :=
 List.find?_range_eq_some.2 ⟨by simpa [Q43] using h,by simpa using hw,λj hj=>by simpa [Q43] using hp j hj⟩
theorem EE {lw:List Int}{s:List UInt8}(hp:∀ x∈lw,0<=x) (b:Nat):∀ k,k<=lw.length->((H7 lw s k).testBit b=true<->∃ w,w<k/\lw.getD w 0=b/\s.getD w 0=120)
 |0,_=>by simp[H7]
 |k+1,hk=>by
  have ih:=EE (s:=s) hp b k (by omega);have h0:=hp _ (Xc (show k<lw.length by omega));simp only[H7];split
  .rename_i h;rw[Nat.testBit_or,zo,ih,Nat.one_shiftLeft,Nat.testBit_two_pow,zf];constructor
   .rintro (⟨w,h1,h2⟩|h1)
    .exact⟨w,by omega,h2⟩
    .exact⟨k,by omega,by omega,h⟩
   .rintro⟨w,h1,h2,h3⟩;rcases Nat.lt_succ_iff_lt_or_eq.1 h1 with h1|rfl
    .exact .inl ⟨w,h1,h2,h3⟩
    .exact .inr (by omega)
  .rename_i h;rw[ih];constructor
   .rintro⟨w,h1,h2⟩;exact⟨w,by omega,h2⟩
   .rintro⟨w,h1,h2,h3⟩;rcases Nat.lt_succ_iff_lt_or_eq.1 h1 with h1|rfl
    .exact⟨w,h1,h2,h3⟩
    .exact(h h3).elim
theorem IM {lw:List Int}{s:List UInt8}{n:Nat}(hp:∀ x∈lw,0<=x/\x<(n:Int)):∀ k,k<=lw.length->H7 lw s k<2 ^ n
 |0,_=>Nat.two_pow_pos _
 |k+1,hk=>by
  have ih:=IM (s:=s) hp k (by omega);have h0:=hp _ (Xc (show k<lw.length by omega));simp only[H7];split
  .refine Nat.or_lt_two_pow ih ?_;rw[Nat.one_shiftLeft];exact Nat.pow_lt_pow_right (by omega) (by omega)
  .exact ih
def pcN (n x:Nat):Nat:=((List.range n).filter λk=>x.testBit k).length
def swA (x:Nat):Nat:=((x >>> 1) &&& 6148914691236517205)+(x &&& 6148914691236517205)
def swB (x:Nat):Nat:=((x >>> 2) &&& 3689348814741910323)+(x &&& 3689348814741910323)
def swC (x:Nat):Nat:=((x >>> 4)+x) &&& 1085102592571150095
def swD (x:Nat):Nat:=x+(x >>> 8)
def swE (x:Nat):Nat:=x+(x >>> 16)
def swF (x:Nat):Nat:=x+(x >>> 32)
def swN (x:Nat):Nat:=swF (swE (swD (swC (swB (swA x))))) &&& 127
theorem JY {h l M m k:Nat}(hl:l<2 ^ 8) (hk:k<=8) (hm:m<2 ^ (8-k)):((2 ^ 8*h+l) >>> k) &&& (2 ^ 8*M+m)=2 ^ 8*((h >>> k) &&& M)+((l >>> k) &&& m):=by
 have rS:m<2 ^ 8:=zV hm (Nat.pow_le_pow_right (by omega) (by omega));refine Nat.eq_of_testBit_eq λj=>?_;have qt:(l >>> k) &&& m<2 ^ 8:=xP Nat.and_le_right rS;rw[Nat.testBit_and,Nat.testBit_shiftRight,Nat.testBit_two_pow_mul_add _ hl,Nat.testBit_two_pow_mul_add _ rS,Nat.testBit_two_pow_mul_add _ qt];by_cases h1:j<8
 .rw[z7 h1,z7 h1,Nat.testBit_and,Nat.testBit_shiftRight];by_cases h2:k+j<8
  .rw[z7 h2]
  .have:m.testBit j=false:=Nat.testBit_lt_two_pow (zV hm (Nat.pow_le_pow_right (by omega) (by omega)));rw[this,Bool.and_false,Bool.and_false]
 .rw[z6 h1,z6 h1,z6 (by omega),Nat.testBit_and,Nat.testBit_shiftRight];congr 2;omega
theorem Q1e {h l:Nat}(hl:l<2 ^ 8):swA (2 ^ 8*h+l)=2 ^ 8*(((h >>> 1) &&& 24019198012642645)+(h &&& 24019198012642645))+(((l >>> 1) &&& 85)+(l &&& 85)):=by
 have h1:=JY (h:=h) (M:=24019198012642645) (m:=85) (k:=1) hl (by omega) (by decide);have h2:=JY (h:=h) (M:=24019198012642645) (m:=85) (k:=0) hl (by omega) (by decide);rw[Nat.shiftRight_zero,Nat.shiftRight_zero,Nat.shiftRight_zero] at h2;have e:(6148914691236517205:Nat)=2 ^ 8*24019198012642645+85:=by decide
 unfold swA;rw[e,h1,h2,Nat.mul_add];omega
theorem Q20 {h l:Nat}(hl:l<2 ^ 8):swB (2 ^ 8*h+l)=2 ^ 8*(((h >>> 2) &&& 14411518807585587)+(h &&& 14411518807585587))+(((l >>> 2) &&& 51)+(l &&& 51)):=by
 have h1:=JY (h:=h) (M:=14411518807585587) (m:=51) (k:=2) hl (by omega) (by decide);have h2:=JY (h:=h) (M:=14411518807585587) (m:=51) (k:=0) hl (by omega) (by decide);rw[Nat.shiftRight_zero,Nat.shiftRight_zero,Nat.shiftRight_zero] at h2;have e:(3689348814741910323:Nat)=2 ^ 8*14411518807585587+51:=by decide
 unfold swB;rw[e,h1,h2,Nat.mul_add];omega
theorem Q7j:∀ b:Fin 256,∃ p q:Fin 5,swB (swA b.val)=16*q.val+p.val/\q.val+p.val=pcN 8 b.val:=by decide +kernel
theorem TF (n x:Nat):pcN (n+1) x=pcN n x+(if x.testBit n then 1 else 0):=by
 unfold pcN;rw[List.range_succ,List.filter_append,zH];by_cases h:x.testBit n=true
 .simp[h]
 .simp[h]
theorem Q6q {h l:Nat}(hl:l<2 ^ 8):∀ n,n<=8->pcN n (2 ^ 8*h+l)=pcN n l
 |0,_=>rfl
 |n+1,hn=>by rw[TF n (2 ^ 8*h+l),TF n l,Q6q hl n (by omega),Nat.testBit_two_pow_mul_add _ hl,z7 (show n<8 by omega)]
theorem R8 {h l:Nat}(hl:l<2 ^ 8):∀ n,pcN (n+8) (2 ^ 8*h+l)=pcN n h+pcN 8 l
 |0=>by rw[zS,Q6q hl 8 (zd _)];simp[pcN]
 |n+1=>by rw[show n+1+8=(n+8)+1 by omega,TF (n+8),R8 hl n,TF n h,Nat.testBit_two_pow_mul_add _ hl,z6 (show ¬ n+8<8 by omega),Nat.add_sub_cancel];omega
theorem Q6e (n x:Nat):pcN n x<=n:=by have:=List.length_filter_le (λk=>x.testBit k) (List.range n);unfold pcN;simpa using this
theorem nib {a b c d e f:Nat}(ha:a<16) (hb:b<16) (hc:c<16) (hd:d<16) (he:e<16) (hf:f<16):(a+16*b+256*c+4096*d+65536*e+1048576*f) &&& 1085102592571150095=a+256*c+65536*e:=by
 have key:∀ {m:Nat}(h l M:Nat),l<2 ^ 4->m<2 ^ 4->(2 ^ 4*h+l) &&& (2 ^ 4*M+m)=2 ^ 4*(h &&& M)+(l &&& m):=λ{m} h l M hl hm=>by
  refine Nat.eq_of_testBit_eq λj=>?_;have qt:l &&& m<2 ^ 4:=xP Nat.and_le_right hm;rw[Nat.testBit_and,Nat.testBit_two_pow_mul_add _ hl,Nat.testBit_two_pow_mul_add _ hm,Nat.testBit_two_pow_mul_add _ qt];by_cases h1:j<4
  .rw[z7 h1,z7 h1,z7 h1,Nat.testBit_and]
  .rw[z6 h1,z6 h1,z6 h1,Nat.testBit_and]
 have k0:=key (m:=15) (b+16*c+256*d+4096*e+65536*f) a 67818912035696880 (by omega) (by decide);have k1:=key (m:=0) (c+16*d+256*e+4096*f) b 4238682002231055 (by omega) (by decide);have k2:=key (m:=15) (d+16*e+256*f) c 264917625139440 (by omega) (by decide);have k3:=key (m:=0) (e+16*f) d 16557351571215 (by omega) (by decide);have k4:=key (m:=15) f e 1034834473200 (by omega) (by decide);have k5:=key (m:=0) 0 f 64677154575 (by omega) (by decide);have an:∀ x:Nat,x<16->x &&& 15=x:=λx hx=>by rw[show (15:Nat)=2 ^ 4-1 by decide,Nat.and_two_pow_sub_one_eq_mod];omega
 rw[Nat.and_zero,Nat.zero_and] at k5;rw[an e he] at k4;rw[Nat.and_zero] at k3;rw[an c hc] at k2;rw[Nat.and_zero] at k1;rw[an a ha] at k0;have e0:a+16*b+256*c+4096*d+65536*e+1048576*f=2 ^ 4*(b+16*c+256*d+4096*e+65536*f)+a:=by omega
 have e1:b+16*c+256*d+4096*e+65536*f=2 ^ 4*(c+16*d+256*e+4096*f)+b:=by omega
 have e2:c+16*d+256*e+4096*f=2 ^ 4*(d+16*e+256*f)+c:=by omega
 have e3:d+16*e+256*f=2 ^ 4*(e+16*f)+d:=by omega
 have e4:e+16*f=2 ^ 4*f+e:=by omega
 have e5:f=2 ^ 4*0+f:=by omega
 have m0:(1085102592571150095:Nat)=2 ^ 4*67818912035696880+15:=by decide
 have m1:(67818912035696880:Nat)=2 ^ 4*4238682002231055+0:=by decide
 have m2:(4238682002231055:Nat)=2 ^ 4*264917625139440+15:=by decide
 have m3:(264917625139440:Nat)=2 ^ 4*16557351571215+0:=by decide
 have m4:(16557351571215:Nat)=2 ^ 4*1034834473200+15:=by decide
 have m5:(1034834473200:Nat)=2 ^ 4*64677154575+0:=by decide
 have r4:f &&& 1034834473200=0:=by
  have:(2 ^ 4*0+f) &&& (2 ^ 4*64677154575+0)=0:=by rw[k5]
  rwa [<-m5,Nat.mul_zero,zS] at this
 rw[r4] at k4;rw[e0,m0,k0,e1,m1,k1,e2,m2,k2,e3,m3,k3,e4,m4,k4];omega
theorem GR {x M m:Nat}(hx:x<256) (h:M % 256=m):x &&& M=x &&& m:=by
 refine Nat.eq_of_testBit_eq λj=>?_;rw[Nat.testBit_and,Nat.testBit_and,<-h,show 256=2 ^ 8 by decide,Nat.testBit_mod_two_pow];by_cases h1:j<8
 .simp[h1]
 .have:x.testBit j=false:=Nat.testBit_lt_two_pow (zV hx (by rw[show 256=2 ^ 8 by decide];exact Nat.pow_le_pow_right (by omega) (by omega)));simp[this]
theorem IS {b:Nat}(h:b<256):swA b=((b >>> 1) &&& 85)+(b &&& 85):=by unfold swA;rw[GR (m:=85) h (by decide),GR (m:=85) (x:=b >>> 1) (by rw[zE];omega) (by decide)]
theorem Q3m {b:Nat}(h:b<256):swB b=((b >>> 2) &&& 51)+(b &&& 51):=by unfold swB;rw[GR (m:=51) h (by decide),GR (m:=51) (x:=b >>> 2) (by rw[zE];omega) (by decide)]
theorem Q16 {b0 b1 b2:Nat}(h0:b0<256) (h1:b1<256) (h2:b2<256):swB (2 ^ 8*(2 ^ 8*b2+b1)+b0)=2 ^ 8*(2 ^ 8*swB b2+swB b1)+swB b0:=by have a0:=Q20 (h:=2 ^ 8*b2+b1) (l:=b0) (by omega);have a1:=JY (h:=b2) (l:=b1) (M:=56294995342131) (m:=51) (k:=2) (by omega) (by omega) (by decide);have a2:=JY (h:=b2) (l:=b1) (M:=56294995342131) (m:=51) (k:=0) (by omega) (by omega) (by decide);rw[Nat.shiftRight_zero,Nat.shiftRight_zero,Nat.shiftRight_zero,show 2 ^ 8*56294995342131+51=14411518807585587 by decide] at a2;rw[show 2 ^ 8*56294995342131+51=14411518807585587 by decide] at a1;rw[a0,a1,a2,Q3m h0,Q3m h1,Q3m h2,GR (M:=56294995342131) (m:=51) h2 (by decide),GR (M:=56294995342131) (m:=51) (x:=b2 >>> 2) (by rw[zE];omega) (by decide)];omega
theorem Q1t {b:Nat}(h:b<256):swA b<256:=by rw[IS h];have h1:(b >>> 1) &&& 85<=85:=Nat.and_le_right;have h2:b &&& 85<=85:=Nat.and_le_right;omega
theorem Z2l {x:Nat}(h:x<16777216):swN x=pcN 24 x:=by
 obtain⟨b0,b1,b2,h0,h1,h2,rfl⟩:∃ b0 b1 b2,b0<256/\b1<256/\b2<256/\x=2 ^ 8*(2 ^ 8*b2+b1)+b0:=⟨x % 256,x / 256 % 256,x / 65536,by omega,by omega,by omega,by omega⟩;obtain⟨p0,q0,e0,s0⟩:=Q7j ⟨b0,h0⟩;obtain⟨p1,q1,e1,s1⟩:=Q7j ⟨b1,h1⟩;obtain⟨p2,q2,e2,s2⟩:=Q7j ⟨b2,h2⟩;dsimp only at e0 e1 e2 s0 s1 s2;have hp:pcN 24 (2 ^ 8*(2 ^ 8*b2+b1)+b0)=pcN 8 b2+pcN 8 b1+pcN 8 b0:=by rw[show 24=(8+8)+8 by omega,R8 (by omega),R8 (by omega)]
 have hA:swA (2 ^ 8*(2 ^ 8*b2+b1)+b0)=2 ^ 8*(2 ^ 8*swA b2+swA b1)+swA b0:=by have a0:=Q1e (h:=2 ^ 8*b2+b1) (l:=b0) (by omega);have a1:=JY (h:=b2) (l:=b1) (M:=93824992236885) (m:=85) (k:=1) (by omega) (by omega) (by decide);have a2:=JY (h:=b2) (l:=b1) (M:=93824992236885) (m:=85) (k:=0) (by omega) (by omega) (by decide);rw[Nat.shiftRight_zero,Nat.shiftRight_zero,Nat.shiftRight_zero,show 2 ^ 8*93824992236885+85=24019198012642645 by decide] at a2;rw[show 2 ^ 8*93824992236885+85=24019198012642645 by decide] at a1;rw[a0,a1,a2,IS h0,IS h1,IS h2,GR (M:=93824992236885) (m:=85) h2 (by decide),GR (M:=93824992236885) (m:=85) (x:=b2 >>> 1) (by rw[zE];omega) (by decide)];omega
 have hz:swB (swA (2 ^ 8*(2 ^ 8*b2+b1)+b0))=65536*(16*q2.val+p2.val)+256*(16*q1.val+p1.val)+(16*q0.val+p0.val):=by rw[hA,Q16 (Q1t h0) (Q1t h1) (Q1t h2),e0,e1,e2];omega
 rw[hp,<-s0,<-s1,<-s2];unfold swN;rw[hz];have vE:=p0.isLt;have oh:=p1.isLt;have dX:=p2.isLt;have vF:=q0.isLt;have vG:=q1.isLt;have ky:=q2.isLt;generalize p0.val=u0 at *;generalize p1.val=u1 at *;generalize p2.val=u2 at *
 generalize q0.val=v0 at *;generalize q1.val=v1 at *;generalize q2.val=v2 at *
 have hC:swC (65536*(16*v2+u2)+256*(16*v1+u1)+(16*v0+u0))=(v0+u0)+256*(v1+u1)+65536*(v2+u2):=by have:=nib (a:=v0+u0) (b:=u1+v0) (c:=v1+u1) (d:=u2+v1) (e:=v2+u2) (f:=v2) (by omega) (by omega) (by omega) (by omega) (by omega) (by omega);unfold swC;rw[<-this,zE];congr 1;omega
 rw[hC,show (127:Nat)=2 ^ 7-1 by decide,Nat.and_two_pow_sub_one_eq_mod];unfold swF swE swD;simp only[zE];obtain⟨w0,k0,l0⟩:∃ w,v0+u0=w/\w<=8:=⟨_,rfl,by omega⟩;obtain⟨w1,k1,l1⟩:∃ w,v1+u1=w/\w<=8:=⟨_,rfl,by omega⟩;obtain⟨w2,k2,l2⟩:∃ w,v2+u2=w/\w<=8:=⟨_,rfl,by omega⟩;rw[k0,k1,k2];clear hz hC hp hA e0 e1 e2 s0 s1 s2;have d1:(w0+256*w1+65536*w2) / 2 ^ 8=w1+256*w2:=by omega
 rw[d1];have d2:(w0+256*w1+65536*w2+(w1+256*w2)) / 2 ^ 16=w2:=by omega
 rw[d2];have d3:(w0+256*w1+65536*w2+(w1+256*w2)+w2) / 2 ^ 32=0:=by omega
 rw[d3];omega
def V7 (ds:List (Int×List Int)):Int:=match ds.find? (λd=>decide (Qe d.1 d.2≠0)) with|some d=>Qe d.1 d.2|none=>0
theorem Cy (a b:Int×List Int):V7 [a,b]=if Qe a.1 a.2≠0 then Qe a.1 a.2 else Qe b.1 b.2:=by unfold V7;by_cases h1:Qe a.1 a.2=0<;>by_cases h2:Qe b.1 b.2=0<;>simp[h1,h2]
def tzK:Nat->Nat->Nat
 |0,_=>0
 |f+1,n=>if n % 2=1 then 0 else 1+tzK f (n / 2)
def tzN (n:Nat):Nat:=if n=0 then 64 else tzK 64 n
theorem IB:∀ f n,0<n->n<2 ^ f->tzK f n<f/\∃ m,n=2 ^ tzK f n*(2*m+1)
 |0,n,h0,h1=>by simp at h1;omega
 |f+1,n,h0,h1=>by
  unfold tzK;split
  .rename_i h;exact⟨by omega,n / 2,by omega⟩
  .rename_i h;have hp:2 ^ (f+1)=2*2 ^ f:=by rw[Nat.pow_succ];omega
   obtain⟨h2,m,h3⟩:=IB f (n / 2) (by omega) (by omega);refine⟨by omega,m,?_⟩;rw[xT,Nat.pow_succ,we (2 ^ _) 2,Nat.mul_assoc,<-h3];omega
theorem AO {n:Nat}(h0:0<n) (h1:n<2 ^ 64):tzN n<64/\∃ m,n=2 ^ tzN n*(2*m+1):=by unfold tzN;rw[z6 (by omega)];exact IB 64 n h0 h1
theorem Q2b {t m:Nat}(i:Nat):(2 ^ t*(2*m+1)-1).testBit i=if i<t then true else if i=t then false else (2 ^ t*(2*m+1)).testBit i:=by
 have hp:0<2 ^ t:=Nat.two_pow_pos t;have e:2 ^ t*(2*m+1)-1=2 ^ t*(2*m)+(2 ^ t-1):=by rw[Nat.mul_add,w8];omega
 rw[e,Nat.testBit_two_pow_mul_add _ (by omega)];split
 .rename_i h;rw[Nat.testBit_two_pow_sub_one];simpa using h
 .rename_i h;split
  .rename_i h2;subst h2;simp
  .rename_i h2;rw[Nat.testBit_two_pow_mul];obtain⟨k,hk⟩:∃ k,i-t=k+1:=⟨i-t-1,by omega⟩;have hd:decide (i>=t)=true:=wk (by omega);rw[hd,hk,Nat.testBit_succ,Nat.testBit_succ,Bool.true_and];congr 1;omega
theorem Q7c {n:Nat}(h0:0<n) (h1:n<2 ^ 64):n &&& (2 ^ 64-n)=2 ^ tzN n:=by
 obtain⟨ht,m,hm⟩:=AO h0 h1;generalize tzN n=t at *
 refine Nat.eq_of_testBit_eq λi=>?_;have e:2 ^ 64-n=2 ^ 64-((n-1)+1):=by omega
 rw[Nat.testBit_and,e,Nat.testBit_two_pow_sub_succ (by omega),Nat.testBit_two_pow,hm,Q2b];by_cases h2:i<t
 .rw[z7 h2,Nat.testBit_two_pow_mul,xQ (show ¬ i>=t by omega),xQ (show ¬ t=i by omega)];rfl
 .rw[z6 h2];by_cases h3:i=t
  .subst h3;rw[z7 rfl,Nat.testBit_two_pow_mul];simp;omega
  .rw[z6 h3,xQ (show ¬ t=i by omega)];cases (2 ^ t*(2*m+1)).testBit i<;>simp
theorem Q9w:∀ t:Nat,t<64->Go.V.t64[(2 ^ t*285870213051353865 % 18446744073709551616) / 288230376151711744]?=some (t:Int):=by decide +kernel
theorem SD {a b:Nat}(ha:a<2 ^ 64) (hb:b<2 ^ 64):Q1 .and .u64 (a:Int) (b:Int)=((a &&& b:Nat):Int):=by
 have e:(BitVec.ofInt 64 ((a:Nat):Int) &&& BitVec.ofInt 64 ((b:Nat):Int)).toNat=a &&& b:=by rw[BitVec.toNat_and,BitVec.toNat_ofInt,BitVec.toNat_ofInt];congr 1<;>omega
 have al:a &&& b<2 ^ 64:=xP Nat.and_le_left ha;show IntKind.wrap .u64 ((BitVec.ofInt 64 ((a:Nat):Int) &&& BitVec.ofInt 64 ((b:Nat):Int)).toNat:Int)=_;rw[e];simp[IntKind.wrap,IntKind.bits,IntKind.signed];omega
theorem CC {x i:Nat}(hi:i<=64):Q9 .u64 x i=((x >>> i:Nat):Int):=by have:Nat.min i 64=i:=xB hi;simp only[Q9,zg,IntKind.bits,this];rw[zE,Int.fdiv_eq_ediv_of_nonneg _ (Int.le_of_lt (Int.pow_pos (by omega)))];norm_cast
theorem RV (y k:Nat):y >>> k<=y:=by rw[zE];exact Nat.div_le_self _ _
theorem opA {y:Nat}(h:y<2 ^ 60):Q1 .and .u64 (Q9 .u64 (y:Int) 1) 6148914691236517205+Q1 .and .u64 (y:Int) 6148914691236517205=((swA y:Nat):Int)/\swA y<=2*y:=by have h1:=RV y 1;have e1:Q9 .u64 (y:Int) 1=((y >>> 1:Nat):Int):=CC (i:=1) (by omega);have e2:=SD (a:=y >>> 1) (b:=6148914691236517205) (by omega) (by omega);have e3:=SD (a:=y) (b:=6148914691236517205) (by omega) (by omega);have l1:y >>> 1 &&& 6148914691236517205<=y >>> 1:=Nat.and_le_left;have l2:y &&& 6148914691236517205<=y:=Nat.and_le_left;exact⟨by rw[e1];exact(congr (congrArg HAdd.hAdd e2) e3).trans (wi _ _).symm,by unfold swA;omega⟩
theorem opB {y:Nat}(h:y<2 ^ 60):Q1 .and .u64 (Q9 .u64 (y:Int) 2) 3689348814741910323+Q1 .and .u64 (y:Int) 3689348814741910323=((swB y:Nat):Int)/\swB y<=2*y:=by have h1:=RV y 2;have e1:Q9 .u64 (y:Int) 2=((y >>> 2:Nat):Int):=CC (i:=2) (by omega);have e2:=SD (a:=y >>> 2) (b:=3689348814741910323) (by omega) (by omega);have e3:=SD (a:=y) (b:=3689348814741910323) (by omega) (by omega);have l1:y >>> 2 &&& 3689348814741910323<=y >>> 2:=Nat.and_le_left;have l2:y &&& 3689348814741910323<=y:=Nat.and_le_left;exact⟨by rw[e1];exact(congr (congrArg HAdd.hAdd e2) e3).trans (wi _ _).symm,by unfold swB;omega⟩
theorem opC {y:Nat}(h:y<2 ^ 60):Q1 .and .u64 (Q9 .u64 (y:Int) 4+(y:Int)) 1085102592571150095=((swC y:Nat):Int)/\swC y<=2*y/\Q9 .u64 (y:Int) 4+(y:Int)=((y >>> 4+y:Nat):Int):=by
 have h1:=RV y 4;have e1:Q9 .u64 (y:Int) 4=((y >>> 4:Nat):Int):=CC (i:=4) (by omega);have e2:=SD (a:=y >>> 4+y) (b:=1085102592571150095) (by omega) (by omega);have l1:(y >>> 4+y) &&& 1085102592571150095<=y >>> 4+y:=Nat.and_le_left;have e3:Q9 .u64 (y:Int) 4+(y:Int)=((y >>> 4+y:Nat):Int):=by rw[e1];exact(wi _ _).symm
 exact⟨by rw[e3];exact e2,by unfold swC;omega,e3⟩
theorem opS {y k:Nat}(hk:k<=64):(y:Int)+Q9 .u64 (y:Int) (k:Int)=((y+y >>> k:Nat):Int)/\y+y >>> k<=2*y:=by have h1:=RV y k;exact⟨by rw[CC hk];exact(wi _ _).symm,by omega⟩
def Wt (hd:Int) (rows:List Int) (hd1:Int) (af:List Int):Int:=if V7 [(hd,rows),(hd1,af)]≠0 then V7 [(hd,rows),(hd1,af)] else if (decide (hd=hd1)&&decide (rows.length=af.length))=false then 4 else 0
def SO (rows af:List Int) (k:Nat):Nat:=(rows.getD k 0).toNat ^^^ (af.getD k 0).toNat
def MO (rows af:List Int):Nat->Int×Int×Int
 |0=>(0,0,0)
 |k+1=>if ((MO rows af k).1==0&&(SO rows af k != 0))=true then ((MO rows af k).1+(pcN 24 (SO rows af k):Int),(k:Int),(tzN (SO rows af k):Int)) else ((MO rows af k).1+(pcN 24 (SO rows af k):Int),(MO rows af k).2.1,(MO rows af k).2.2)
def Ud (hd:Int) (rows:List Int) (hd1:Int) (af:List Int):Int×Int×Int:=if Wt hd rows hd1 af=0 then MO rows af rows.length else (0,0,0)
theorem Q61 (rows af:List Int) (k:Nat):(MO rows af (k+1)).1=(MO rows af k).1+(pcN 24 (SO rows af k):Int):=by rw[show MO rows af (k+1)=if ((MO rows af k).1==0&&(SO rows af k != 0))=true then ((MO rows af k).1+(pcN 24 (SO rows af k):Int),(k:Int),(tzN (SO rows af k):Int)) else ((MO rows af k).1+(pcN 24 (SO rows af k):Int),(MO rows af k).2.1,(MO rows af k).2.2) from rfl];split<;>rfl
theorem Q2z (rows af:List Int):∀ k:Nat,0<=(MO rows af k).1/\(MO rows af k).1<=24*k
 |0=>by unfold MO;simp
 |k+1=>by have ih:=Q2z rows af k;have:=Q6e 24 (SO rows af k);rw[Q61];omega
def czT:VCode :=
 .seq (.region [
  ⟨(some 2),.move (.const (.int .i64 (0))),none⟩])
 (.seq (.seq (.region [
  ⟨(some 3),.move (.tmp 0),none⟩,
  ⟨(some 4),.cmp .eql (.tmp 3) (.const (.int .u64 (0))),none⟩])
 (.cond (.tmp 4) (.seq (.region [
   ⟨(some 2),.move (.const (.int .i64 (64))),none⟩])
  (.ret))
  (.skip)))
 (.seq (.region [
  ⟨(some 5),.move (.tmp 0),none⟩,
  ⟨(some 6),.move (.tmp 0),none⟩,
  ⟨(some 7),.un .neg (.tmp 6),none⟩,
  ⟨(some 8),.bits .and (.tmp 5) (.tmp 7),none⟩,
  ⟨(some 9),.arith .mul (.tmp 8) (.const (.int .u64 (285870213051353865))),none⟩,
  ⟨(some 10),.shift .shr (.tmp 9) (.const (.int .u64 (58))),none⟩,
  ⟨(some 11),.indexAddrArr 64 1 (.global 1) (.tmp 10),none⟩,
  ⟨(some 12),.load false 1 (.tmp 11),none⟩,
  ⟨(some 13),.convI .i64 (.tmp 12),none⟩,
  ⟨(some 2),.move (.tmp 13),none⟩])
 (.ret)))
theorem Up {S:VSpecs}{op:VOp}{d:Option Nat}{l:List VOper}{env:Env}{U:Heap}{K:Env->Heap->Prop}(v:Value) (h:∀ Q:Value->Heap->Prop,Q v U->vop S op env U Q) (hK:HS S l (XV env d v) U K):HS S (⟨d,op,none⟩::l) env U K:=by show vif true _ _;exact⟨λ_=>h _ hK,λh=>by cases h⟩
theorem Q7h {S:VSpecs}{op:BinOp}{x y:Operand}{env:Env}{U:Heap}{Q:Value->Heap->Prop}{k:IntKind}{a b:Int}(hx:Q4 env x=.int k a) (hy:Q4 env y=.int k b) (h:Q (.bool (Q9l op a b)) U):vop S (.cmp op x y) env U Q:=by simp only[vop,Q6,hx,hy,zr,Z8];exact h
theorem Q4d {S:VSpecs}{op:BinOp}{x y:Operand}{env:Env}{U:Heap}{Q:Value->Heap->Prop}{k:IntKind}{a b:Int}(hx:Q4 env x=.int k a) (hy:Q4 env y=.int k b) (h:Q (.int k (Q1 op k a b)) U):vop S (.bits op x y) env U Q:=by simp only[vop,Q6,hx,hy,zr,Z8];exact h
theorem Q37 {S:VSpecs}{op:BinOp}{x y:Operand}{env:Env}{U:Heap}{Q:Value->Heap->Prop}{k:IntKind}{a b:Int}(hx:Q4 env x=.int k a) (hy:Q4 env y=.int k b) (h:Q (.int k (PV op k a b)) U):vop S (.arith op x y) env U Q:=by simp only[vop,Q6,hx,hy,zr,Z8];exact h
theorem Q2q {S:VSpecs}{op:BinOp}{x y:Operand}{env:Env}{U:Heap}{Q:Value->Heap->Prop}{k k':IntKind}{a b:Int}(hx:Q4 env x=.int k a) (hy:Q4 env y=.int k' b) (h0:0<=b) (h:Q (.int k (PX op k a b)) U):vop S (.shift op x y) env U Q:=by simp only[vop,Q6,hx,hy,h0,zr,Z8];exact h
theorem Q67 {S:VSpecs}{x:Operand}{env:Env}{U:Heap}{Q:Value->Heap->Prop}{k k':IntKind}{a:Int}(hx:Q4 env x=.int k a) (h:Q (.int k' (k'.wrap a)) U):vop S (.convI k' x) env U Q:=by simp only[vop,Q6,hx,Z8];exact h
theorem Q77 {S:VSpecs}{len size g o s:Nat}{x y:Operand}{env:Env}{U:Heap}{Q:Value->Heap->Prop}{k':IntKind}{b:Int}(hx:Q4 env x=.pointer (some ⟨g,o,some s⟩)) (hy:Q4 env y=.int k' b) (h0:0<=b/\b<len) (h:Q (.pointer (some ⟨g,o+b.toNat*size,some s⟩)) U):vop S (.indexAddrArr len size x y) env U Q:=by simp only[vop,Q6,hx,hy,h0,wv,zr,Z8];exact h
theorem Q5e {S:VSpecs}{size g o s:Nat}{agg:Bool}{x:Operand}{env:Env}{U:Heap}{Q:Value->Heap->Prop}{c:List Value}{v:Value}(hx:Q4 env x=.pointer (some ⟨g,o,some s⟩)) (hg:Q3z g=some c) (hp:c.all Zd=true) (hv:Wi agg size c o=some v) (h:Q v U):vop S (.load agg size x) env U Q:=by simp only[vop,Q6,hx,hg,hp,hv,zr,Z8];exact h
theorem Aa (x:Int):IntKind.wrap .u64 x=x % 18446744073709551616:=by show (if (false&&decide (x % (18446744073709551616:Int)>=9223372036854775808))=true then x % (18446744073709551616:Int)-18446744073709551616 else x % (18446744073709551616:Int))=_;simp
theorem Hq {x:Nat}(h:x<2 ^ 64):(BitVec.ofInt 64 (x:Int)).toNat=x:=by rw[Fs,BitVec.toNat_ofNat,xV h]
theorem Q5l {x y:Nat}(hx:x<2 ^ 64) (hy:y<2 ^ 64):Q1 .and .u64 x y=((x &&& y:Nat):Int):=by
 have e:(BitVec.ofInt 64 (x:Int) &&& BitVec.ofInt 64 (y:Int)).toNat=x &&& y:=by rw[BitVec.toNat_and,Hq hx,Hq hy]
 show IntKind.wrap .u64 ((BitVec.ofInt 64 (x:Int) &&& BitVec.ofInt 64 (y:Int)).toNat:Int)=_;have hl:x &&& y<=x:=Nat.and_le_left;rw[e,Aa];omega
set_option maxHeartbeats 2000000 in
theorem Z2r {P:Program}{f:Nat}(h:Fun P f czT [.tmp 2] 14) (hm:P.follows .mixedOrders=true) {x:Int}(h0:0<=x) (h1:x<=18446744073709551615) {U:Heap}{K:Value->Heap->Prop}(hK:K (.int .i64 (tzN x.toNat)) U):VCalled P f [.int .u64 x] U K:=by
 refine h.calls hm RR ?_;obtain⟨n,rfl⟩:=zu h0;have h1:n<2 ^ 64:=by omega
 rw[zg] at hK;unfold czT;refine Up (.int .i64 0) (λ_ h=>h) ?_;refine Up (.int .u64 n) (λ_ h=>h) ?_;refine Up (.bool ((n:Int)==0)) (λ_ h=>Q7h (k:=.u64) (a:=n) (b:=0) rfl rfl h) ?_;show vif ((n:Int)==0) _ _;refine⟨λhz=>?_,λhz=>?_⟩
 .have hz:n=0:=by have:=eq_of_beq hz;omega
  subst hz;refine Up (.int .i64 64) (λ_ h=>h) ?_;exact⟨_,_,DropTo.refl _ _ _,hK⟩
 have hz:0<n:=by
  rcases Nat.eq_zero_or_pos n with h|h
  .subst h;cases hz
  .exact h
 refine Up (.int .u64 n) (λ_ h=>h) ?_;refine Up (.int .u64 n) (λ_ h=>h) ?_;refine Up (.int .u64 (IntKind.u64.wrap (0-(n:Int)))) (λ_ h=>h) ?_;have hand:Q1 .and .u64 n (IntKind.u64.wrap (0-(n:Int)))=((2 ^ tzN n:Nat):Int):=by
  have e:IntKind.u64.wrap (0-(n:Int))=((2 ^ 64-n:Nat):Int):=by rw[Aa];omega
  rw[e,Q5l h1 (by omega),Q7c hz h1]
 refine Up (.int .u64 ((2 ^ tzN n:Nat):Int)) (λ_ h=>Q4d (k:=.u64) (a:=n) (b:=IntKind.u64.wrap (0-(n:Int))) rfl rfl (by rw[hand];exact h)) ?_;have hmul:PV .mul .u64 ((2 ^ tzN n:Nat):Int) 285870213051353865=((2 ^ tzN n*285870213051353865 % 18446744073709551616:Nat):Int):=by show IntKind.wrap .u64 (((2 ^ tzN n:Nat):Int)*285870213051353865)=_;rw[Aa];omega
 refine Up (.int .u64 ((2 ^ tzN n*285870213051353865 % 18446744073709551616:Nat):Int)) (λ_ h=>Q37 (k:=.u64) (a:=((2 ^ tzN n:Nat):Int)) (b:=285870213051353865) rfl rfl (by rw[hmul];exact h)) ?_;have qu:PX .shr .u64 ((2 ^ tzN n*285870213051353865 % 18446744073709551616:Nat):Int) 58=((2 ^ tzN n*285870213051353865 % 18446744073709551616 / 288230376151711744:Nat):Int):=by show Int.fdiv _ 288230376151711744=_;rw[Int.fdiv_eq_ediv_of_nonneg _ (by decide)];omega
 refine Up (.int .u64 ((2 ^ tzN n*285870213051353865 % 18446744073709551616 / 288230376151711744:Nat):Int)) (λ_ h=>Q2q (k:=.u64) (k':=.u64) (a:=((2 ^ tzN n*285870213051353865 % 18446744073709551616:Nat):Int)) (b:=58) rfl rfl (by decide) (by rw[qu];exact h)) ?_;have qv:=Q9w (tzN n) (AO hz h1).1;have al:2 ^ tzN n*285870213051353865 % 18446744073709551616 / 288230376151711744<64:=by omega
 generalize 2 ^ tzN n*285870213051353865 % 18446744073709551616 / 288230376151711744=k at *
 refine Up (.pointer (some ⟨1,0+(k:Int).toNat*1,some 0⟩)) (λ_ h=>Q77 (g:=1) (o:=0) (s:=0) (b:=k) (k':=.u64) rfl rfl (by omega) h) ?_;have hv:Wi false 1 (Go.V.t64.map λx=>Value.int .u8 x) (0+(k:Int).toNat*1)=some (.int .u8 (tzN n)):=by show (Go.V.t64.map λx=>Value.int .u8 x)[0+(k:Int).toNat*1]?=_;rw[zg,w8,zS,xh,qv];rfl
 refine Up (.int .u8 (tzN n)) (λ_ h=>Q5e (g:=1) (s:=0) (o:=0+(k:Int).toNat*1) (c:=Go.V.t64.map λx=>Value.int .u8 x) rfl rfl (by decide) hv h) ?_;have uG:=(AO hz h1).1;have eQ:IntKind.i64.wrap (tzN n:Int)=tzN n:=InK.wrap (k:=.i64) ((QD _).2 (by omega));refine Up (.int .i64 (tzN n)) (λ_ h=>Q67 (k:=.u8) (a:=tzN n) rfl (by rw[eQ];exact h)) ?_;refine Up (.int .i64 (tzN n)) (λ_ h=>h) ?_;exact⟨_,_,DropTo.refl _ _ _,hK⟩
theorem Q0m {P:Program}{U:Heap}{v:SV}{u:Value}(h:SR P hNil WB XC v u):Ret P U v [] u U :=
 ⟨⟨.refl _,Dead.refl _⟩,λ_=>rfl,WB,λj b hj=>by simp at hj,λj j' i hj=>by simp at hj,h⟩
theorem Q34 (U:Heap):Tp U []=U:=by
 unfold Tp;cases U;simp only[List.length_nil,zM,List.getElem?_nil,wo,Heap.mk.injEq,and_true];funext i;split
 .rfl
 .rename_i wf hi;exact(wf i (by simpa using hi)).symm
theorem Q7m {P:Program}{f:Nat}{pre:Int->Prop}{r:Int->Int}(h:∀ x,pre x->∀ (U:Heap) (K:Value->Heap->Prop),K (.int .i64 (r x)) U->VCalled P f [.int .u64 x] U K) :
  OkC P f (XU (.one (.k (.i .u64)):AL Int) pre (λd=>.val (.i .i64) (r d)) (λ_=>[])):=by
 intro ap dA U args vs c v bs av hs hv bL hc;unfold XU at hs;split at hs
 .rename_i d hd;obtain⟨rfl,rfl,rfl⟩:=(by simpa using hs:pre d=c/\SV.val (.i .i64) (r d)=v/\[]=bs)
  match args,av,hd with
  |[],_,hd=>simp[AL.dec] at hd
  |a::x::l,_,hd=>simp[AL.dec] at hd
  |[a],av,hd =>
   simp only[AL.dec] at hd;obtain⟨u1,nS,rfl,s1,av⟩:=av;have av:nS=[]:=av;subst av;have k1:KC U (.i .u64) d [u1]:=QT (k:=.i .u64) hd ⟨u1,[],rfl,s1,rfl⟩;have e1:u1=.int .u64 d:=by simpa [KC] using k1
   subst e1;refine⟨h d hc U _ (Q0m (by simp[SR,KC])),λ_ _=>h d hc U _ ⟨?_,(Q34 U).symm⟩⟩;simp[UH,Av]
 .cases hs
theorem EY {P:Program}{f:Nat}{D:Type}{l:AL D}{pre:D->Prop}{res:D->SV}{obs:D->List OB}(h:∀ d,pre d->False):OkC P f (XU l pre res obs):=by
 intro ap dA U args vs c v bs av hs hv bL hc;unfold XU at hs;split at hs
 .rename_i d hd;have:pre d<->c:=by simp at hs;exact hs.1
  exact(h d (this.2 hc)).elim
 .cases hs
def Vh:AL (Int):=(.one (.k (.i .u64)))
def KZ (d:Int):Prop:=0<=d/\d<=18446744073709551615
def KW (d:Int):SV:=.val (.i .i64) ((tzN d.toNat:Nat):Int)
def KQ (d:Int):List OB:=[]
def W3:CSp:=XU Vh KZ KW KQ
abbrev Vl:Prop:=OkC Tryz.prog 37 W3
theorem Vw:Vl :=
 Q7m (pre:=λx=>0<=x/\x<=18446744073709551615) (r:=λx=>((tzN x.toNat:Nat):Int)) λx hx U K hK =>
  Z2r (f:=37) (by rw[show czT=c37 by kernel_rfl];exact Z12) mixed hx.1 hx.2 hK
end Go.Proofs.Tryz