/- A framework for walks, contracts of functions, and their proofs: part 11. -/
import Derived.Shelf.SlGeneric
import Derived.Shelf.Sort.Plain
import Derived.Ground.NamesProg
import Derived.Test.YtfblnfcecfjbpaaGreatProg
import Derived.Below
import Derived.Shelf.Spec.SlicesGrow
import Derived.Shelf.Slices.In.SortNone
import Derived.Test.YtfblnfcecfjbpaaGreatT10
set_option linter.unusedVariables false
set_option maxRecDepth 100000
namespace Go.Proofs.Tryz
open Go Go.V Go.Proofs
def X6:AL (List Int×((Int->Prop)×(Int->Bool))):=(.cons (.k (.list (.i .i64))) (.one (.fn [(.i .i64)] .bo)))
def K1 (d:List Int×((Int->Prop)×(Int->Bool))):Prop:=d.1.length<=1000000/\∀ x∈d.1,d.2.1 x
def JO (d:List Int×((Int->Prop)×(Int->Bool))):SV:=.val (.i .i64) (ON d.1 d.2.2)
def JM (d:List Int×((Int->Prop)×(Int->Bool))):List OB:=[]
def ZJ:CSp:=V5 X6 K1 JO JM
def QZ (l:List Int) (p:(Int->Prop)×(Int->Bool)):Prop :=
 ∃ (e2:Unit) (d20:Int),((l=l/\(SV.pf [(.i .i64)] .bo p.1 p.2=SV.pf [(.i .i64)] .bo p.1 p.2)/\(lI l)=(lI l)/\(0:Int)=d20/\True)/\(True)) /\
 LoopP (λ(d2:Int) (q2:(Int)->Prop) =>
  ((decide (d2<(lI l)))=true ->
   (0<=d2)/\(d2<(List.length l))/\(p.1 (gD l d2 0))/\((p.2 (gD l d2 0))=true ->
    (d2=(ON l p.2)/\(True))) /\
   ((p.2 (gD l d2 0))=false ->
    (I64 (d2+(1:Int)))/\(∃ d3:Int,((l=l/\(SV.pf [(.i .i64)] .bo p.1 p.2=SV.pf [(.i .i64)] .bo p.1 p.2)/\(lI l)=(lI l)/\(d2+(1:Int))=d3/\True)/\(True))/\q2 d3))) /\
  ((decide (d2<(lI l)))=false ->
   ((-1:Int)=(ON l p.2)/\(True)))) d20
def JU:Cx:=⟨[],[],19,[],0,[],[],[],[],false,[],[],[],[]⟩
def KK (l:List Int) (p:(Int->Prop)×(Int->Bool)):List (Nat×LoopAnn):=[(0,⟨Unit,Int,[0,1,7,8],λe x=>[.val (.list (.i .i64)) l,.pf [(.i .i64)] .bo p.1 p.2,.val (.i .i64) (((List.length l):Nat):Int),.val (.i .i64) x],λe x=>[]⟩)]
theorem KW (d:List Int×((Int->Prop)×(Int->Bool))):gwp (JU) (KK d.1 d.2) Z1t 0 (VF [.tmp 4] (JO d) (JM d)) (Qx 19 (AL.can X6 d))=QZ d.1 d.2:=by kernel_rfl
abbrev Ko:Prop:=OkC Tryz.prog 142 ZJ
theorem KJ (h:∀ (l:List Int) (p:(Int->Prop)×(Int->Bool)),(l.length<=1000000/\∀ x∈l,p.1 x)->QZ l p):OkC Tryz.prog 142 ZJ :=
 Z5 II mixed (C:=JU) (V:=λ(d:List Int×((Int->Prop)×(Int->Bool)))=>QZ d.1 d.2) ⟨.nil,XsOk.nil,ItsOk.nil,YlOk.nil,IysOk.nil,XfOk.nil⟩ (KW) λd hp=>h d.1 d.2 hp
theorem Ox {l:List Int}{p:Int->Bool}{k:Nat}(hk:k<l.length) (h:p l[k]=true) (hJ:(l.take k).any p=false):ON l p=k:=by
 have:l.findIdx? p=some k:=by rw[List.findIdx?_eq_some_iff_getElem];refine⟨hk,h,λj hj=>?_⟩;have hn:=xD.1 hJ l[j] (List.mem_take_iff_getElem.2 ⟨j,by omega,rfl⟩);simpa using hn
 simp[ON,this]
theorem FQ {l:List Int}{p:Int->Bool}(hJ:l.any p=false):ON l p=-1:=by
 have:l.findIdx? p=none:=by rw[List.findIdx?_eq_none_iff];intro x hx;have:=xD.1 hJ x hx;simpa using this
 simp[ON,this]
theorem Cs (l:List Int) (p:Int->Bool):decide (ON l p>=0)=l.any p:=by
 unfold ON;cases h:l.findIdx? p with
 |none =>
  have:=List.findIdx?_eq_none_iff.1 h;have:l.any p=false:=by rw[xD];intro x hx;simp[this x hx]
  rw[this];rfl
 |some i =>obtain⟨h1,h2,_⟩:=List.findIdx?_eq_some_iff_getElem.1 h;rw[xu.2 ⟨l[i],zp h1,h2⟩];simp
theorem KB:Ko:=KJ λl p hp=>by
 unfold QZ;(try delta lI gD sT I64 ND pj8 pj4);simp only[true_and,and_true,exists_eq_left',exists_const,zm,xA];refine LoopP.count l.length (λk=>(l.take k).any p.2=false) (by simp) λk bt hJ q hq=>?_;simp only[zq,Int.ofNat_lt,Qn];refine⟨λah=>?_,λbj=>?_⟩
 .rw[Qh ah];refine⟨by omega,ah,hp.2 _ (zp ah),λhx=>?_,λhx=>⟨by omega,hq ah ?_⟩⟩
  .rw[Ox ah hx hJ]
  .rw[XQ ah,List.any_append,hJ];simp[hx]
 .rw[zx (by omega)] at hJ;rw[FQ hJ]
def Jp:AL (List Int×((Int->Prop)×(Int->Bool))):=(.cons (.k (.list (.i .i64))) (.one (.fn [(.i .i64)] .bo)))
def Y3 (d:List Int×((Int->Prop)×(Int->Bool))):Prop:=d.1.length<=1000000/\∀ x∈d.1,d.2.1 x
def Jj (d:List Int×((Int->Prop)×(Int->Bool))):SV:=.val .bo (d.1.any d.2.2)
def Je (d:List Int×((Int->Prop)×(Int->Bool))):List OB:=[]
def Qt:CSp:=V5 Jp Y3 Jj Je
def Z6 (l:List Int) (p:(Int->Prop)×(Int->Bool)):Prop :=
 (l.length<=1000000/\∀ x∈l,(λ(x1:Int)=>p.1 x1) x)/\((decide ((ON l (λ(x1:Int)=>(p.2 x1)))>=(0:Int)))=(l.any p.2)/\(True))
def Jq:Cx:=⟨[],[(142,ZJ)],9,[],0,[],[],[],[],false,[],[],[],[]⟩
def Yr (l:List Int) (p:(Int->Prop)×(Int->Bool)):List (Nat×LoopAnn):=[]
theorem Yw (d:List Int×((Int->Prop)×(Int->Bool))):gwp (Jq) (Yr d.1 d.2) Z1f 0 (VF [.tmp 4] (Jj d) (Je d)) (Qx 9 (AL.can Jp d))=Z6 d.1 d.2:=by kernel_rfl
abbrev Yv:Prop:=OkC Tryz.prog 113 Qt
theorem Yg (h:∀ (l:List Int) (p:(Int->Prop)×(Int->Bool)),(l.length<=1000000/\∀ x∈l,p.1 x)->Z6 l p):OkC Tryz.prog 113 Qt :=
 Z5 Oy mixed (C:=Jq) (V:=λ(d:List Int×((Int->Prop)×(Int->Bool)))=>Z6 d.1 d.2) ⟨(.cons KB .nil),XsOk.nil,ItsOk.nil,YlOk.nil,IysOk.nil,XfOk.nil⟩ (Yw) λd hp=>h d.1 d.2 hp
theorem Z4:Yv:=Yg λl p hp=>by exact⟨hp,Cs l p.2,trivial⟩
def U7:AL (Int×Int×Int):=(.cons (.k (.i .i64)) (.cons (.ptr (.one (.k (.i .i64)))) (.one (.ptr (.one (.k (.i .i64)))))))
def DK (d:Int×Int×Int):Prop:=True
def Vh (d:Int×Int×Int):SV:=.val .bo (decide (d.1<d.2.1)||decide (d.2.2<d.1))
def V6 (d:Int×Int×Int):List OB:=[]
def YC:CSp:=V5 U7 DK Vh V6
def X9 (n:Int) (a:Int) (b:Int):Prop :=
 (((decide (n<a))||(decide (n > b)))=(decide (n<a)||decide (b<n))/\(True))
def VJ:Cx:=⟨[],[],13,[],0,[],[],[],[],false,[],[],[],[]⟩
def Br (n:Int) (a:Int) (b:Int):List (Nat×LoopAnn):=[]
theorem Bv (d:Int×Int×Int):gwp (VJ) (Br d.1 d.2.1 d.2.2) Z1w 0 (VF [.tmp 4] (Vh d) (V6 d)) (Qx 13 (AL.can U7 d))=X9 d.1 d.2.1 d.2.2:=by kernel_rfl
abbrev Bj:Prop:=OkC Tryz.prog 125 YC
theorem Bc (h:∀ (n:Int) (a:Int) (b:Int),(True)->X9 n a b):OkC Tryz.prog 125 YC :=
 Z5 Om mixed (C:=VJ) (V:=λ(d:Int×Int×Int)=>X9 d.1 d.2.1 d.2.2) ⟨.nil,XsOk.nil,ItsOk.nil,YlOk.nil,IysOk.nil,XfOk.nil⟩ (Bv) λd hp=>h d.1 d.2.1 d.2.2 hp
theorem Bw:Bj:=Bc λn a b _=>by unfold X9;(try delta lI gD sT I64 ND pj8 pj4);exact(by and_intros<;>first|rfl|trivial|simp)
def NN:AL (Int×Int×List Int):=(.cons (.k (.i .i64)) (.cons (.k (.i .i64)) (.one (.k (.list (.i .i64))))))
def Hs (d:Int×Int×List Int):Prop:=d.2.2.length<=1000000
def N3 (d:Int×Int×List Int):SV:=.val .bo (!(d.2.2.any λn=>decide (n<d.1)||decide (d.2.1<n)))
def U_ (d:Int×Int×List Int):List OB:=[]
def J0:CSp:=V5 NN Hs N3 U_
def W7 (a:Int) (b:Int) (l:List Int):Prop :=
 (l.length<=1000000/\∀ x∈l,(λ(x1:Int)=>True) x)/\((!(l.any (λ(x1:Int)=>(decide (x1<a)||decide (b<x1)))))=(!(l.any λn=>decide (n<a)||decide (b<n)))/\(True))
def Mv:Cx:=⟨[],[(113,Qt),(125,YC)],11,[],0,[],[],[],[],false,[],[],[],[]⟩
def T1 (a:Int) (b:Int) (l:List Int):List (Nat×LoopAnn):=[]
theorem HS (d:Int×Int×List Int):gwp (Mv) (T1 d.1 d.2.1 d.2.2) c88 0 (VF [.tmp 6] (N3 d) (U_ d)) (Qx 11 (AL.can NN d))=W7 d.1 d.2.1 d.2.2:=by kernel_rfl
abbrev PO:Prop:=OkC Tryz.prog 88 J0
theorem Pu (h:∀ (a:Int) (b:Int) (l:List Int),(l.length<=1000000)->W7 a b l):OkC Tryz.prog 88 J0 :=
 Z5 Q62 mixed (C:=Mv) (V:=λ(d:Int×Int×List Int)=>W7 d.1 d.2.1 d.2.2) ⟨(.cons Z4 (.cons Bw .nil)),XsOk.nil,ItsOk.nil,YlOk.nil,IysOk.nil,XfOk.nil⟩ (HS) λd hp=>h d.1 d.2.1 d.2.2 hp
theorem X1:PO:=Pu λa b l h=>by unfold W7;(try delta lI gD sT I64 ND pj8 pj4);exact⟨⟨h,λ_ _=>trivial⟩,rfl,trivial⟩
def WH:AL (Int):=(.one (.k (.i .i64)))
def UT (d:Int):Prop:=True
def Wv (d:Int):SV:=.val .bo (inI d 1 24)
def W8 (d:Int):List OB:=[]
def QU:CSp:=V5 WH UT Wv W8
def Zw (f:Int):Prop :=
 ([f].length<=1000000)/\((!([f].any λn=>decide (n<(1:Int))||decide ((24:Int)<n)))=(inI f 1 24)/\(True))
def WR:Cx:=⟨[(3,(.i .i64))],[(88,J0)],6,[],0,[],[],[],[],false,[],[],[],[]⟩
def Nu (f:Int):List (Nat×LoopAnn):=[]
theorem Nt (d:Int):gwp (WR) (Nu d) c87 0 (VF [.tmp 2] (Wv d) (W8 d)) (Qx 6 (AL.can WH d))=Zw d:=by kernel_rfl
abbrev Nn:Prop:=OkC Tryz.prog 87 QU
theorem Ns (h:∀ (f:Int),(True)->Zw f):OkC Tryz.prog 87 QU :=
 Z5 Q5h mixed (C:=WR) (V:=λ(d:Int)=>Zw d) ⟨(.cons X1 .nil),XsOk.nil,ItsOk.nil,YlOk.nil,IysOk.nil,XfOk.nil⟩ (Nt) λd hp=>h d hp
theorem Zx:Nn:=Ns λf _=>by unfold Zw;(try delta lI gD sT I64 ND pj8 pj4);have e:∀ n a b:Int,(decide (n<a)||decide (b<n))=!inI n a b:=λn a b=>(nI n a b).symm;simp only[List.any_cons,List.any_nil,xY,e,Bool.not_not,xh,List.length_nil];exact⟨by omega,(by and_intros<;>first|rfl|trivial|simp)⟩
def WJ:AL (Int×List Int):=(.cons (.k (.i .i64)) (.one (.k (.list (.i .i64)))))
def UG (d:Int×List Int):Prop:=1<=d.1/\d.1<=24/\d.2.length<=1000000
def Wp (d:Int×List Int):SV:=.val .bo (!(d.2.any λn=>!inI n 0 (2 ^ d.1.toNat-1)))
def Wz (d:Int×List Int):List OB:=[]
def ZN:CSp:=V5 WJ UG Wp Wz
def Zz (f:Int) (l:List Int):Prop :=
 (0<=f)/\(I64 (XA .i64 (1:Int) f))/\(I64 ((XA .i64 (1:Int) f)-(1:Int)))/\(l.length<=1000000)/\((!(l.any λn=>decide (n<(0:Int))||decide (((XA .i64 (1:Int) f)-(1:Int))<n)))=(!(l.any λn=>!inI n 0 (2 ^ f.toNat-1)))/\(True))
def WI:Cx:=⟨[],[(88,J0)],10,[],0,[],[],[],[],false,[],[],[],[]⟩
def Ny (f:Int) (l:List Int):List (Nat×LoopAnn):=[]
theorem NA (d:Int×List Int):gwp (WI) (Ny d.1 d.2) Z1v 0 (VF [.tmp 4] (Wp d) (Wz d)) (Qx 10 (AL.can WJ d))=Zz d.1 d.2:=by kernel_rfl
abbrev Nv:Prop:=OkC Tryz.prog 102 ZN
theorem Na (h:∀ (f:Int) (l:List Int),(1<=f/\f<=24/\l.length<=1000000)->Zz f l):OkC Tryz.prog 102 ZN :=
 Z5 IF mixed (C:=WI) (V:=λ(d:Int×List Int)=>Zz d.1 d.2) ⟨(.cons X1 .nil),XsOk.nil,ItsOk.nil,YlOk.nil,IysOk.nil,XfOk.nil⟩ (NA) λd hp=>h d.1 d.2 hp
theorem WD:Nv:=Na λf l h=>by obtain⟨h1,h2,h3⟩:=h;unfold Zz;(try delta lI gD sT I64 ND pj8 pj4);have e:∀ n a b:Int,(decide (n<a)||decide (b<n))=!inI n a b:=λn a b=>(nI n a b).symm;obtain⟨k,rfl⟩:=xk (show 0<=f by omega);have hs:=Z65 (k:=k) (by omega);have hp:=Q1v (k:=k) (by omega);simp only[hs,e,zq,HB];exact⟨by omega,by simp only[Qn];omega,by simp only[Qn];omega,h3,(by and_intros<;>first|rfl|trivial|simp)⟩
def J_:AL (Int):=(.one (.k (.i .u64)))
def YW (d:Int):Prop:=0<=d/\d<=18446744073709551615
def JR (d:Int):SV:=.val (.i .u64) ((Q02 d.toNat:Nat):Int)
def JN (d:Int):List OB:=[]
def ZI:CSp:=V5 J_ YW JR JN
def QY (x:Int):Prop :=
 (0<=(8:Int))/\(0<=(8:Int))/\(InK .u64 (XA .u64 (Q8 .and .u64 x (71777214294589695:Int)) (8:Int)))/\(0<=(16:Int))/\(0<=(16:Int))/\(InK .u64 (XA .u64 (Q8 .and .u64 (Q8 .or .u64 (Q8 .and .u64 (Xf .u64 x (8:Int)) (71777214294589695:Int)) (XA .u64 (Q8 .and .u64 x (71777214294589695:Int)) (8:Int))) (281470681808895:Int)) (16:Int)))/\(0<=(32:Int))/\(0<=(32:Int))/\((Q8 .or .u64 (Xf .u64 (Q8 .or .u64 (Q8 .and .u64 (Xf .u64 (Q8 .or .u64 (Q8 .and .u64 (Xf .u64 x (8:Int)) (71777214294589695:Int)) (XA .u64 (Q8 .and .u64 x (71777214294589695:Int)) (8:Int))) (16:Int)) (281470681808895:Int)) (XA .u64 (Q8 .and .u64 (Q8 .or .u64 (Q8 .and .u64 (Xf .u64 x (8:Int)) (71777214294589695:Int)) (XA .u64 (Q8 .and .u64 x (71777214294589695:Int)) (8:Int))) (281470681808895:Int)) (16:Int))) (32:Int)) (IntKind.wrap .u64 (XA .u64 (Q8 .or .u64 (Q8 .and .u64 (Xf .u64 (Q8 .or .u64 (Q8 .and .u64 (Xf .u64 x (8:Int)) (71777214294589695:Int)) (XA .u64 (Q8 .and .u64 x (71777214294589695:Int)) (8:Int))) (16:Int)) (281470681808895:Int)) (XA .u64 (Q8 .and .u64 (Q8 .or .u64 (Q8 .and .u64 (Xf .u64 x (8:Int)) (71777214294589695:Int)) (XA .u64 (Q8 .and .u64 x (71777214294589695:Int)) (8:Int))) (281470681808895:Int)) (16:Int))) (32:Int))))=((Q02 x.toNat:Nat):Int)/\(True))
def JV:Cx:=⟨[],[],22,[20],0,[],[],[],[],false,[],[],[],[]⟩
def KI (x:Int):List (Nat×LoopAnn):=[]
theorem Kj (d:Int):gwp (JV) (KI d) Z25 0 (VF [.tmp 2] (JR d) (JN d)) (Qx 22 (AL.can J_ d))=QY d:=by kernel_rfl
abbrev Kx:Prop:=OkC Tryz.prog 184 ZI
theorem KP (h:∀ (x:Int),(0<=x/\x<=18446744073709551615)->QY x):OkC Tryz.prog 184 ZI :=
 Z5 It mixed (C:=JV) (V:=λ(d:Int)=>QY d) ⟨.nil,XsOk.nil,ItsOk.nil,YlOk.nil,IysOk.nil,XfOk.nil⟩ (Kj) λd hp=>h d hp
theorem KD:Kx:=KP λx h=>by
 obtain⟨h1,h2⟩:=h;unfold QY;(try delta lI gD sT I64 ND pj8 pj4);obtain⟨n,rfl⟩:=xk h1;have hn:n<2 ^ 64:=by omega
 obtain⟨a1,a2,a3⟩:=sw8 hn;obtain⟨b1,b2,b3⟩:=Z64 a3;have c1:=Z63 b3;simp only[a1,b1,c1,zq];refine⟨by omega,by omega,a2,by omega,by omega,b2,by omega,by omega,?_⟩;exact(by and_intros<;>first|rfl|trivial|simp)
def WW:AL (Int):=(.one (.k (.i .u64)))
def Ur (d:Int):Prop:=0<=d/\d<=18446744073709551615
def Wk (d:Int):SV:=.val (.i .u64) ((Bm 64 d.toNat:Nat):Int)
def Wn (d:Int):List OB:=[]
def X0:CSp:=V5 WW Ur Wk Wn
def ZB (x:Int):Prop :=
 (0<=(1:Int))/\(0<=(1:Int))/\(InK .u64 (XA .u64 (Q8 .and .u64 x (6148914691236517205:Int)) (1:Int)))/\(0<=(2:Int))/\(0<=(2:Int))/\(InK .u64 (XA .u64 (Q8 .and .u64 (Q8 .or .u64 (Q8 .and .u64 (Xf .u64 x (1:Int)) (6148914691236517205:Int)) (XA .u64 (Q8 .and .u64 x (6148914691236517205:Int)) (1:Int))) (3689348814741910323:Int)) (2:Int)))/\(0<=(4:Int))/\(0<=(4:Int))/\(InK .u64 (XA .u64 (Q8 .and .u64 (Q8 .or .u64 (Q8 .and .u64 (Xf .u64 (Q8 .or .u64 (Q8 .and .u64 (Xf .u64 x (1:Int)) (6148914691236517205:Int)) (XA .u64 (Q8 .and .u64 x (6148914691236517205:Int)) (1:Int))) (2:Int)) (3689348814741910323:Int)) (XA .u64 (Q8 .and .u64 (Q8 .or .u64 (Q8 .and .u64 (Xf .u64 x (1:Int)) (6148914691236517205:Int)) (XA .u64 (Q8 .and .u64 x (6148914691236517205:Int)) (1:Int))) (3689348814741910323:Int)) (2:Int))) (1085102592571150095:Int)) (4:Int)))/\(0<=(Q8 .or .u64 (Q8 .and .u64 (Xf .u64 (Q8 .or .u64 (Q8 .and .u64 (Xf .u64 (Q8 .or .u64 (Q8 .and .u64 (Xf .u64 x (1:Int)) (6148914691236517205:Int)) (XA .u64 (Q8 .and .u64 x (6148914691236517205:Int)) (1:Int))) (2:Int)) (3689348814741910323:Int)) (XA .u64 (Q8 .and .u64 (Q8 .or .u64 (Q8 .and .u64 (Xf .u64 x (1:Int)) (6148914691236517205:Int)) (XA .u64 (Q8 .and .u64 x (6148914691236517205:Int)) (1:Int))) (3689348814741910323:Int)) (2:Int))) (4:Int)) (1085102592571150095:Int)) (XA .u64 (Q8 .and .u64 (Q8 .or .u64 (Q8 .and .u64 (Xf .u64 (Q8 .or .u64 (Q8 .and .u64 (Xf .u64 x (1:Int)) (6148914691236517205:Int)) (XA .u64 (Q8 .and .u64 x (6148914691236517205:Int)) (1:Int))) (2:Int)) (3689348814741910323:Int)) (XA .u64 (Q8 .and .u64 (Q8 .or .u64 (Q8 .and .u64 (Xf .u64 x (1:Int)) (6148914691236517205:Int)) (XA .u64 (Q8 .and .u64 x (6148914691236517205:Int)) (1:Int))) (3689348814741910323:Int)) (2:Int))) (1085102592571150095:Int)) (4:Int)))/\(Q8 .or .u64 (Q8 .and .u64 (Xf .u64 (Q8 .or .u64 (Q8 .and .u64 (Xf .u64 (Q8 .or .u64 (Q8 .and .u64 (Xf .u64 x (1:Int)) (6148914691236517205:Int)) (XA .u64 (Q8 .and .u64 x (6148914691236517205:Int)) (1:Int))) (2:Int)) (3689348814741910323:Int)) (XA .u64 (Q8 .and .u64 (Q8 .or .u64 (Q8 .and .u64 (Xf .u64 x (1:Int)) (6148914691236517205:Int)) (XA .u64 (Q8 .and .u64 x (6148914691236517205:Int)) (1:Int))) (3689348814741910323:Int)) (2:Int))) (4:Int)) (1085102592571150095:Int)) (XA .u64 (Q8 .and .u64 (Q8 .or .u64 (Q8 .and .u64 (Xf .u64 (Q8 .or .u64 (Q8 .and .u64 (Xf .u64 x (1:Int)) (6148914691236517205:Int)) (XA .u64 (Q8 .and .u64 x (6148914691236517205:Int)) (1:Int))) (2:Int)) (3689348814741910323:Int)) (XA .u64 (Q8 .and .u64 (Q8 .or .u64 (Q8 .and .u64 (Xf .u64 x (1:Int)) (6148914691236517205:Int)) (XA .u64 (Q8 .and .u64 x (6148914691236517205:Int)) (1:Int))) (3689348814741910323:Int)) (2:Int))) (1085102592571150095:Int)) (4:Int)))<=18446744073709551615)/\(((Q02 (Q8 .or .u64 (Q8 .and .u64 (Xf .u64 (Q8 .or .u64 (Q8 .and .u64 (Xf .u64 (Q8 .or .u64 (Q8 .and .u64 (Xf .u64 x (1:Int)) (6148914691236517205:Int)) (XA .u64 (Q8 .and .u64 x (6148914691236517205:Int)) (1:Int))) (2:Int)) (3689348814741910323:Int)) (XA .u64 (Q8 .and .u64 (Q8 .or .u64 (Q8 .and .u64 (Xf .u64 x (1:Int)) (6148914691236517205:Int)) (XA .u64 (Q8 .and .u64 x (6148914691236517205:Int)) (1:Int))) (3689348814741910323:Int)) (2:Int))) (4:Int)) (1085102592571150095:Int)) (XA .u64 (Q8 .and .u64 (Q8 .or .u64 (Q8 .and .u64 (Xf .u64 (Q8 .or .u64 (Q8 .and .u64 (Xf .u64 x (1:Int)) (6148914691236517205:Int)) (XA .u64 (Q8 .and .u64 x (6148914691236517205:Int)) (1:Int))) (2:Int)) (3689348814741910323:Int)) (XA .u64 (Q8 .and .u64 (Q8 .or .u64 (Q8 .and .u64 (Xf .u64 x (1:Int)) (6148914691236517205:Int)) (XA .u64 (Q8 .and .u64 x (6148914691236517205:Int)) (1:Int))) (3689348814741910323:Int)) (2:Int))) (1085102592571150095:Int)) (4:Int))).toNat:Nat):Int)=((Bm 64 x.toNat:Nat):Int)/\(True))
def WA:Cx:=⟨[],[(184,ZI)],26,[],0,[],[],[],[],false,[],[],[],[]⟩
def Nx (x:Int):List (Nat×LoopAnn):=[]
theorem N8 (d:Int):gwp (WA) (Nx d) Z1n 0 (VF [.tmp 2] (Wk d) (Wn d)) (Qx 26 (AL.can WW d))=ZB d:=by kernel_rfl
abbrev Nc:Prop:=OkC Tryz.prog 153 X0
theorem Nz (h:∀ (x:Int),(0<=x/\x<=18446744073709551615)->ZB x):OkC Tryz.prog 153 X0 :=
 Z5 FG mixed (C:=WA) (V:=λ(d:Int)=>ZB d) ⟨(.cons KD .nil),XsOk.nil,ItsOk.nil,YlOk.nil,IysOk.nil,XfOk.nil⟩ (N8) λd hp=>h d hp
theorem Nl:Nc:=Nz λx h=>by
 obtain⟨h1,h2⟩:=h;unfold ZB;(try delta lI gD sT I64 ND pj8 pj4);obtain⟨n,rfl⟩:=xk h1;have hn:n<2 ^ 64:=by omega
 obtain⟨a1,a2,a3⟩:=sw1 hn;obtain⟨b1,b2,b3⟩:=sw2 a3;obtain⟨c1,c2,c3⟩:=sw4 b3;have hr:=Z3v hn;have he:Uj 4 1085102592571150095 (Uj 2 3689348814741910323 (Uj 1 6148914691236517205 n))=rev8 n:=rfl;simp only[a1,b1,c1,zq];rw[he,hr];rw[he] at c3;refine⟨by omega,by omega,a2,by omega,by omega,b2,by omega,by omega,c2,⟨by omega,by omega⟩,?_⟩;exact(by and_intros<;>first|rfl|trivial|simp)
def Ym:AL (Int×Int):=(.cons (.k (.i .i64)) (.one (.k (.i .i64))))
def Ni (d:Int×Int):Prop:=1<=d.1/\d.1<=24/\0<=d.2/\d.2<2 ^ d.1.toNat
def WL (d:Int×Int):SV:=.val (.i .i64) (IB d.1 d.2)
def WK (d:Int×Int):List OB:=[]
def Xk:CSp:=V5 Ym Ni WL WK
def ZV (f:Int) (r:Int):Prop :=
 (InK .u64 r)/\(0<=r/\r<=18446744073709551615)/\(InK .u64 f)/\(InK .u64 ((64:Int)-f))/\(0<=((64:Int)-f))/\(I64 (Xf .u64 ((Bm 64 r.toNat:Nat):Int) ((64:Int)-f)))/\((Xf .u64 ((Bm 64 r.toNat:Nat):Int) ((64:Int)-f))=(IB f r)/\(True))
def Yl:Cx:=⟨[],[(153,X0)],13,[],0,[],[],[],[],false,[],[],[],[]⟩
def M5 (f:Int) (r:Int):List (Nat×LoopAnn):=[]
theorem Mn (d:Int×Int):gwp (Yl) (M5 d.1 d.2) Z18 0 (VF [.tmp 4] (WL d) (WK d)) (Qx 13 (AL.can Ym d))=ZV d.1 d.2:=by kernel_rfl
abbrev M9:Prop:=OkC Tryz.prog 137 Xk
theorem Mg (h:∀ (f:Int) (r:Int),(1<=f/\f<=24/\0<=r/\r<2 ^ f.toNat)->ZV f r):OkC Tryz.prog 137 Xk :=
 Z5 Fs mixed (C:=Yl) (V:=λ(d:Int×Int)=>ZV d.1 d.2) ⟨(.cons Nl .nil),XsOk.nil,ItsOk.nil,YlOk.nil,IysOk.nil,XfOk.nil⟩ (Mn) λd hp=>h d.1 d.2 hp
theorem Mq:M9:=Mg λf r h=>by
 obtain⟨h1,h2,h3,h4⟩:=h;unfold ZV;(try delta lI gD sT I64 ND pj8 pj4);obtain⟨k,rfl⟩:=xk (show 0<=f by omega);obtain⟨n,rfl⟩:=xk h3;simp only[zq,HB] at h4;have hp:=Q1v (k:=k) (by omega);have h4:n<2 ^ k:=by omega
 have hs:Xf .u64 ((Bm 64 n:Nat):Int) (64-(k:Int))=((Bm k n:Nat):Int):=by rw[show (64-(k:Int))=((64-k:Nat):Int) by omega,Z39 (by omega),Fh (by omega) h4]
 have hl:=RA k n;simp only[zq,hs];refine⟨by simp only[Bb];omega,⟨by omega,by omega⟩,by simp only[Bb];omega,by simp only[Bb];omega,by omega,by simp only[Qn];omega,?_⟩;exact⟨by unfold IB;simp only[zq],trivial⟩
def Xr:AL ((Int×Int×Bool)×Int):=(.cons (.agg (.cons (.k (.i .i64)) (.cons (.k (.i .i64)) (.one (.k .bo))))) (.one (.ptr (.one (.k (.i .i64))))))
def KZ (d:(Int×Int×Bool)×Int):Prop:=1<=d.2/\d.2<=24
def Xg (d:(Int×Int×Bool)×Int):SV:=.val .bo (!QT d.2 (d.1.1,(d.1.2.1,d.1.2.2)))
def Xh (d:(Int×Int×Bool)×Int):List OB:=[]
def Ji:CSp:=V5 Xr KZ Xg Xh
def Z3 (cn:Int) (cr:Int) (ct:Bool) (f:Int):Prop :=
 ([cn].length<=1000000)/\((!(!([cn].any λn=>decide (n<(-1:Int))||decide ((59:Int)<n))))=false->True)/\((!(!([cn].any λn=>decide (n<(-1:Int))||decide ((59:Int)<n))))=false->1<=f/\f<=24/\[cr].length<=1000000)/\(((!(!([cn].any λn=>decide (n<(-1:Int))||decide ((59:Int)<n))))||(!(!([cr].any λn=>!inI n 0 (2 ^ f.toNat-1)))))=(!QT f (cn,(cr,ct)))/\(True))
def Xu:Cx:=⟨[(3,(.i .i64))],[(88,J0),(102,ZN)],17,[],0,[],[],[],[],false,[],[],[],[]⟩
def Vw (cn:Int) (cr:Int) (ct:Bool) (f:Int):List (Nat×LoopAnn):=[]
theorem Vv (d:(Int×Int×Bool)×Int):gwp (Xu) (Vw d.1.1 d.1.2.1 d.1.2.2 d.2) Z1x 0 (VF [.tmp 3] (Xg d) (Xh d)) (Qx 17 (AL.can Xr d))=Z3 d.1.1 d.1.2.1 d.1.2.2 d.2:=by kernel_rfl
abbrev Vo:Prop:=OkC Tryz.prog 123 Ji
theorem Vu (h:∀ (cn:Int) (cr:Int) (ct:Bool) (f:Int),(1<=f/\f<=24)->Z3 cn cr ct f):OkC Tryz.prog 123 Ji :=
 Z5 IT mixed (C:=Xu) (V:=λ(d:(Int×Int×Bool)×Int)=>Z3 d.1.1 d.1.2.1 d.1.2.2 d.2) ⟨(.cons X1 (.cons WD .nil)),XsOk.nil,ItsOk.nil,YlOk.nil,IysOk.nil,XfOk.nil⟩ (Vv) λd hp=>h d.1.1 d.1.2.1 d.1.2.2 d.2 hp
theorem VC:Vo:=Vu λcn cr ct f h=>by obtain⟨h1,h2⟩:=h;unfold Z3;(try delta lI gD sT I64 ND pj8 pj4);have e:∀ n a b:Int,(decide (n<a)||decide (b<n))=!inI n a b:=λn a b=>(nI n a b).symm;simp only[List.any_cons,List.any_nil,xY,e,Bool.not_not,xh,List.length_nil];refine⟨by omega,λ_=>trivial,λ_=>⟨h1,h2,by omega⟩,?_⟩;unfold QT;rw[Bool.not_and];exact(by and_intros<;>first|rfl|trivial|simp)
def QP:AL ((List (Int×Int×Bool))×((Int×Int×Bool->Prop)×(Int×Int×Bool->Bool))):=(.cons (.k (.list (.pair (.i .i64) (.pair (.i .i64) .bo)))) (.one (.fn [(.pair (.i .i64) (.pair (.i .i64) .bo))] .bo)))
def ZL (d:(List (Int×Int×Bool))×((Int×Int×Bool->Prop)×(Int×Int×Bool->Bool))):Prop:=d.1.length<=1000000/\∀ x∈d.1,d.2.1 x
def QK (d:(List (Int×Int×Bool))×((Int×Int×Bool->Prop)×(Int×Int×Bool->Bool))):SV:=.val (.i .i64) (GX d.1 d.2.2)
def QJ (d:(List (Int×Int×Bool))×((Int×Int×Bool->Prop)×(Int×Int×Bool->Bool))):List OB:=[]
def Qp:CSp:=V5 QP ZL QK QJ
def Qc (l:List (Int×Int×Bool)) (p:(Int×Int×Bool->Prop)×(Int×Int×Bool->Bool)):Prop :=
 ∃ (e2:Unit) (d20:Int),((l=l/\(SV.pf [(.pair (.i .i64) (.pair (.i .i64) .bo))] .bo p.1 p.2=SV.pf [(.pair (.i .i64) (.pair (.i .i64) .bo))] .bo p.1 p.2)/\(lI l)=(lI l)/\(0:Int)=d20/\True)/\(True)) /\
 LoopP (λ(d2:Int) (q2:(Int)->Prop) =>
  ((decide (d2<(lI l)))=true ->
   (0<=d2)/\(d2<(List.length l))/\(p.1 ((gD l d2 (0,(0,false))).1,((gD l d2 (0,(0,false))).2.1,(gD l d2 (0,(0,false))).2.2)))/\((p.2 ((gD l d2 (0,(0,false))).1,((gD l d2 (0,(0,false))).2.1,(gD l d2 (0,(0,false))).2.2)))=true ->
    (d2=(GX l p.2)/\(True))) /\
   ((p.2 ((gD l d2 (0,(0,false))).1,((gD l d2 (0,(0,false))).2.1,(gD l d2 (0,(0,false))).2.2)))=false ->
    (I64 (d2+(1:Int)))/\(∃ d3:Int,((l=l/\(SV.pf [(.pair (.i .i64) (.pair (.i .i64) .bo))] .bo p.1 p.2=SV.pf [(.pair (.i .i64) (.pair (.i .i64) .bo))] .bo p.1 p.2)/\(lI l)=(lI l)/\(d2+(1:Int))=d3/\True)/\(True))/\q2 d3))) /\
  ((decide (d2<(lI l)))=false ->
   ((-1:Int)=(GX l p.2)/\(True)))) d20
def QO:Cx:=⟨[],[],19,[],0,[],[],[],[],false,[],[],[],[]⟩
def ZY (l:List (Int×Int×Bool)) (p:(Int×Int×Bool->Prop)×(Int×Int×Bool->Bool)):List (Nat×LoopAnn):=[(0,⟨Unit,Int,[0,1,7,8],λe x=>[.val (.list (.pair (.i .i64) (.pair (.i .i64) .bo))) l,.pf [(.pair (.i .i64) (.pair (.i .i64) .bo))] .bo p.1 p.2,.val (.i .i64) (((List.length l):Nat):Int),.val (.i .i64) x],λe x=>[]⟩)]
theorem ZX (d:(List (Int×Int×Bool))×((Int×Int×Bool->Prop)×(Int×Int×Bool->Bool))):gwp (QO) (ZY d.1 d.2) Z1d 0 (VF [.tmp 4] (QK d) (QJ d)) (Qx 19 (AL.can QP d))=Qc d.1 d.2:=by kernel_rfl
abbrev J3:Prop:=OkC Tryz.prog 148 Qp
theorem J1 (h:∀ (l:List (Int×Int×Bool)) (p:(Int×Int×Bool->Prop)×(Int×Int×Bool->Bool)),(l.length<=1000000/\∀ x∈l,p.1 x)->Qc l p):OkC Tryz.prog 148 Qp :=
 Z5 Ij mixed (C:=QO) (V:=λ(d:(List (Int×Int×Bool))×((Int×Int×Bool->Prop)×(Int×Int×Bool->Bool)))=>Qc d.1 d.2) ⟨.nil,XsOk.nil,ItsOk.nil,YlOk.nil,IysOk.nil,XfOk.nil⟩ (ZX) λd hp=>h d.1 d.2 hp
theorem J2:J3:=J1 λl p hp=>by
 unfold Qc;(try delta lI gD sT I64 ND pj8 pj4);simp only[true_and,and_true,exists_eq_left',exists_const,zm,xA];refine LoopP.count l.length (λk=>(l.take k).any p.2=false) (by simp) λk bt hJ q hq=>?_;simp only[zq,Int.ofNat_lt,Qn];refine⟨λah=>?_,λbj=>?_⟩
 .have ah:k<l.length:=by omega
  rw[Qh ah];refine⟨by omega,by omega,hp.2 _ (zp ah),λhx=>?_,λhx=>⟨by omega,hq ah ?_⟩⟩
  .rw[Ly ah hx hJ]
  .rw[XQ ah,List.any_append,hJ];simp[hx]
 .rw[zx (by omega)] at hJ;rw[PW hJ]
def QD:AL ((List (Int×Int×Bool))×((Int×Int×Bool->Prop)×(Int×Int×Bool->Bool))):=(.cons (.k (.list (.pair (.i .i64) (.pair (.i .i64) .bo)))) (.one (.fn [(.pair (.i .i64) (.pair (.i .i64) .bo))] .bo)))
def Zt (d:(List (Int×Int×Bool))×((Int×Int×Bool->Prop)×(Int×Int×Bool->Bool))):Prop:=d.1.length<=1000000/\∀ x∈d.1,d.2.1 x
def QA (d:(List (Int×Int×Bool))×((Int×Int×Bool->Prop)×(Int×Int×Bool->Bool))):SV:=.val .bo (d.1.any d.2.2)
def Qy (d:(List (Int×Int×Bool))×((Int×Int×Bool->Prop)×(Int×Int×Bool->Bool))):List OB:=[]
def Ql:CSp:=V5 QD Zt QA Qy
def Qa (l:List (Int×Int×Bool)) (p:(Int×Int×Bool->Prop)×(Int×Int×Bool->Bool)):Prop :=
 (l.length<=1000000/\∀ x∈l,(λ(x1:Int×Int×Bool)=>p.1 (x1.1,(x1.2.1,x1.2.2))) x)/\((decide ((GX l (λ(x1:Int×Int×Bool)=>(p.2 (x1.1,(x1.2.1,x1.2.2)))))>=(0:Int)))=(l.any p.2)/\(True))
def QC:Cx:=⟨[],[(148,Qp)],9,[],0,[],[],[],[],false,[],[],[],[]⟩
def ZE (l:List (Int×Int×Bool)) (p:(Int×Int×Bool->Prop)×(Int×Int×Bool->Bool)):List (Nat×LoopAnn):=[]
theorem ZF (d:(List (Int×Int×Bool))×((Int×Int×Bool->Prop)×(Int×Int×Bool->Bool))):gwp (QC) (ZE d.1 d.2) Z1a 0 (VF [.tmp 4] (QA d) (Qy d)) (Qx 9 (AL.can QD d))=Qa d.1 d.2:=by kernel_rfl
abbrev ZH:Prop:=OkC Tryz.prog 124 Ql
theorem ZD (h:∀ (l:List (Int×Int×Bool)) (p:(Int×Int×Bool->Prop)×(Int×Int×Bool->Bool)),(l.length<=1000000/\∀ x∈l,p.1 x)->Qa l p):OkC Tryz.prog 124 Ql :=
 Z5 On mixed (C:=QC) (V:=λ(d:(List (Int×Int×Bool))×((Int×Int×Bool->Prop)×(Int×Int×Bool->Bool)))=>Qa d.1 d.2) ⟨(.cons J2 .nil),XsOk.nil,ItsOk.nil,YlOk.nil,IysOk.nil,XfOk.nil⟩ (ZF) λd hp=>h d.1 d.2 hp
theorem ZG:ZH:=ZD λl p hp=>by simp only[Qa];exact⟨hp,Q1e l p.2,trivial⟩
def Wj:AL (Int×List (Int×Int×Bool)):=(.cons (.k (.i .i64)) (.one (.k (.list (.pair (.i .i64) (.pair (.i .i64) .bo))))))
def Uc (d:Int×List (Int×Int×Bool)):Prop:=1<=d.1/\d.1<=24/\d.2.length<=1000000
def XN (d:Int×List (Int×Int×Bool)):SV:=.val .bo (!d.2.isEmpty&&!(d.2.any λc=>!QT d.1 c))
def W0 (d:Int×List (Int×Int×Bool)):List OB:=[]
def QM:CSp:=V5 Wj Uc XN W0
def Zh (f:Int) (cs:List (Int×Int×Bool)):Prop :=
 ((decide ((lI cs) > (0:Int)))=true->cs.length<=1000000/\∀ x∈cs,(λ(x1:Int×Int×Bool)=>1<=f/\f<=24) x)/\(((decide ((lI cs) > (0:Int)))&&(!(cs.any (λ(x1:Int×Int×Bool)=>(!QT f (x1.1,(x1.2.1,x1.2.2)))))))=(!cs.isEmpty&&!(cs.any λc=>!QT f c))/\(True))
def Wi:Cx:=⟨[],[(124,Ql),(123,Ji)],16,[],0,[],[],[],[],false,[],[],[],[]⟩
def Uv (f:Int) (cs:List (Int×Int×Bool)):List (Nat×LoopAnn):=[]
theorem Uu (d:Int×List (Int×Int×Bool)):gwp (Wi) (Uv d.1 d.2) c86 0 (VF [.tmp 4] (XN d) (W0 d)) (Qx 16 (AL.can Wj d))=Zh d.1 d.2:=by kernel_rfl
abbrev Up:Prop:=OkC Tryz.prog 86 QM
theorem Um (h:∀ (f:Int) (cs:List (Int×Int×Bool)),(1<=f/\f<=24/\cs.length<=1000000)->Zh f cs):OkC Tryz.prog 86 QM :=
 Z5 Q5l mixed (C:=Wi) (V:=λ(d:Int×List (Int×Int×Bool))=>Zh d.1 d.2) ⟨(.cons ZG (.cons VC .nil)),XsOk.nil,ItsOk.nil,YlOk.nil,IysOk.nil,XfOk.nil⟩ (Uu) λd hp=>h d.1 d.2 hp
theorem Ze:Up:=Um λf cs h=>by
 obtain⟨h1,h2,h3⟩:=h;unfold Zh;(try delta lI gD sT I64 ND pj8 pj4);refine⟨λ_=>⟨h3,λ_ _=>⟨h1,h2⟩⟩,?_⟩;have:decide ((cs.length:Int) > 0)=!cs.isEmpty:=by cases cs<;>simp
 rw[this];exact(by and_intros<;>first|rfl|trivial|simp)
def DE:Cx:=⟨[],[(87,QU),(86,QM)],30,[],0,[],[],[],[],false,[],[],[],[]⟩
def Vg:XSp:=Q0f DE (λ_=>[]) Z1y [.cell 2 true 3,.tmp 3] 30
theorem Vy:XOk Tryz.prog 103 Vg:=M1 Oe mixed (C:=DE) ⟨(.cons Zx (.cons Ze .nil)),XsOk.nil,ItsOk.nil,YlOk.nil,IysOk.nil,XfOk.nil⟩ _
def KY:AL ((Int×(List (Int×Int×Bool))×Int)×Int):=(.cons (.agg (.cons (.k (.i .i64)) (.cons (.k (.list (.pair (.i .i64) (.pair (.i .i64) .bo)))) (.one (.k (.i .i64)))))) (.one (.k (.i .i64))))
def MV (d:(Int×(List (Int×Int×Bool))×Int)×Int):Prop:=1<=d.1.2.2/\d.1.2.2<=24/\0<=d.2/\d.2<d.1.2.1.length/\∀ c∈d.1.2.1,QT d.1.2.2 c=true
def YG (d:(Int×(List (Int×Int×Bool))×Int)×Int):SV:=.val (.i .i64) (Yh d.1.2.2 (d.1.2.1.getD d.2.toNat YB))
def YN (d:(Int×(List (Int×Int×Bool))×Int)×Int):List OB:=[]
def JK:CSp:=V5 KY MV YG YN
def Jw (hk:Int) (cs:List (Int×Int×Bool)) (f:Int) (at_:Int):Prop :=
 (0<=at_)/\(at_<(List.length cs))/\((gD cs at_ (0,(0,false))).2.2=true ->
  (1<=f/\f<=24/\0<=((gD cs at_ (0,(0,false))).2.1)/\((gD cs at_ (0,(0,false))).2.1)<2 ^ f.toNat)/\((IB f ((gD cs at_ (0,(0,false))).2.1))=(Yh f (cs.getD at_.toNat YB))/\(True))) /\
 ((gD cs at_ (0,(0,false))).2.2=false ->
  (0<=at_)/\(at_<(List.length cs))/\((gD cs at_ (0,(0,false))).2.1=(Yh f (cs.getD at_.toNat YB))/\(True)))
def KA:Cx:=⟨[],[(137,Xk)],26,[],0,[],[],[],[],false,[],[],[],[]⟩
def GW (hk:Int) (cs:List (Int×Int×Bool)) (f:Int) (at_:Int):List (Nat×LoopAnn):=[]
theorem GQ (d:(Int×(List (Int×Int×Bool))×Int)×Int):gwp (KA) (GW d.1.1 d.1.2.1 d.1.2.2 d.2) Z1q 0 (VF [.tmp 4] (YG d) (YN d)) (Qx 26 (AL.can KY d))=Jw d.1.1 d.1.2.1 d.1.2.2 d.2:=by kernel_rfl
abbrev GL:Prop:=OkC Tryz.prog 104 JK
theorem GC (h:∀ (hk:Int) (cs:List (Int×Int×Bool)) (f:Int) (at_:Int),(1<=f/\f<=24/\0<=at_/\at_<cs.length/\∀ c∈cs,QT f c=true)->Jw hk cs f at_):OkC Tryz.prog 104 JK :=
 Z5 Ol mixed (C:=KA) (V:=λ(d:(Int×(List (Int×Int×Bool))×Int)×Int)=>Jw d.1.1 d.1.2.1 d.1.2.2 d.2) ⟨(.cons Mq .nil),XsOk.nil,ItsOk.nil,YlOk.nil,IysOk.nil,XfOk.nil⟩ (GQ) λd hp=>h d.1.1 d.1.2.1 d.1.2.2 d.2 hp
theorem KS:GL:=GC λhk cs f at_ h=>by
 obtain⟨h1,h2,h3,h4,h5⟩:=h;unfold Jw;(try delta lI gD sT I64 ND pj8 pj4);have hd:∀ j,cs.getD j (0,(0,false))=cs.getD j YB:=λ_=>rfl;have hj:at_.toNat<cs.length:=by omega
 have hc:=Bd (h5 _ (show cs.getD at_.toNat YB∈cs by rw[Qh hj];exact zp hj));simp only[hd,and_true];refine⟨h3,by omega,λc=>⟨⟨h1,h2,hc.1,hc.2⟩,?_⟩,λc=>⟨h3,by omega,?_⟩⟩
 .unfold Yh;rw[z7 c]
 .unfold Yh;rw[z8 (by rw[c];decide)]
def KF:AL ((Int×(List (Int×Int×Bool))×Int)×Int×Int):=(.cons (.agg (.cons (.k (.i .i64)) (.cons (.k (.list (.pair (.i .i64) (.pair (.i .i64) .bo)))) (.one (.k (.i .i64)))))) (.cons (.k (.i .i64)) (.one (.k (.i .i64)))))
def MZ (d:(Int×(List (Int×Int×Bool))×Int)×Int×Int):Prop:=d.1.2.1≠[]/\d.1.2.1.length<=1000/\-1000000<=d.2.1/\d.2.1<=1000000/\-1000000<=d.2.2/\d.2.2<=1000000
def YK (d:(Int×(List (Int×Int×Bool))×Int)×Int×Int):SV:=.val (.i .i64) (Int.tmod (d.2.1+d.2.2) d.1.2.1.length)
def YI (d:(Int×(List (Int×Int×Bool))×Int)×Int×Int):List OB:=[]
def Z9:CSp:=V5 KF MZ YK YI
def Jx (hk:Int) (cs:List (Int×Int×Bool)) (f:Int) (at_:Int) (st:Int):Prop :=
 (I64 (at_+st))/\((lI cs)≠0)/\((Int.tmod (at_+st) (lI cs))=(Int.tmod (at_+st) cs.length)/\(True))
def KL:Cx:=⟨[],[],15,[],0,[],[],[],[],false,[],[],[],[]⟩
def Gz (hk:Int) (cs:List (Int×Int×Bool)) (f:Int) (at_:Int) (st:Int):List (Nat×LoopAnn):=[]
theorem Gx (d:(Int×(List (Int×Int×Bool))×Int)×Int×Int):gwp (KL) (Gz d.1.1 d.1.2.1 d.1.2.2 d.2.1 d.2.2) c78 0 (VF [.tmp 6] (YK d) (YI d)) (Qx 15 (AL.can KF d))=Jx d.1.1 d.1.2.1 d.1.2.2 d.2.1 d.2.2:=by kernel_rfl
abbrev Gy:Prop:=OkC Tryz.prog 78 Z9
theorem Gv (h:∀ (hk:Int) (cs:List (Int×Int×Bool)) (f:Int) (at_:Int) (st:Int),(cs≠[]/\cs.length<=1000/\-1000000<=at_/\at_<=1000000/\-1000000<=st/\st<=1000000)->Jx hk cs f at_ st):OkC Tryz.prog 78 Z9 :=
 Z5 Q6w mixed (C:=KL) (V:=λ(d:(Int×(List (Int×Int×Bool))×Int)×Int×Int)=>Jx d.1.1 d.1.2.1 d.1.2.2 d.2.1 d.2.2) ⟨.nil,XsOk.nil,ItsOk.nil,YlOk.nil,IysOk.nil,XfOk.nil⟩ (Gx) λd hp=>h d.1.1 d.1.2.1 d.1.2.2 d.2.1 d.2.2 hp
theorem Jr:Gy:=Gv λhk cs f at_ st h=>by obtain⟨h1,h2,h3,h4,h5,h6⟩:=h;unfold Jx;(try delta lI gD sT I64 ND pj8 pj4);have:=xx.2 h1;exact⟨by simp only[Qn];omega,by omega,rfl,trivial⟩
def Gp:AL ((Int×List (Int×Int×Bool))×Int×List Int):=(.cons (.agg (.cons (.k (.i .i64)) (.one (.k (.list (.pair (.i .i64) (.pair (.i .i64) .bo))))))) (.cons (.k (.i .i64)) (.one (.k (.list (.i .i64))))))
def PJ (d:(Int×List (Int×Int×Bool))×Int×List Int):Prop:=d.1.2.length<=1000/\d.2.2.length<=1000
def M3 (d:(Int×List (Int×Int×Bool))×Int×List Int):SV:=.tup [.lst 0,.val (.i .i64) (Vz d.1.1 d.1.2 d.2.1 d.2.2),.val (.i .i64) (J4 d.1.1 d.1.2 d.2.1 d.2.2)]
def NP (d:(Int×List (Int×Int×Bool))×Int×List Int):List OB:=[.lst 3 (.i .i64) (GY d.1.1 d.1.2 d.2.1 d.2.2) ((GY d.1.1 d.1.2 d.2.1 d.2.2).isEmpty)]
def UP:CSp:=V5 Gp PJ M3 NP
abbrev MA (hk:Int) (cs:List (Int×Int×Bool)) (a:Int) (st:List Int):=(((GY hk cs a st)=[]/\(GY hk cs a st).isEmpty=true)/\True)
abbrev YP (cs:List (Int×Int×Bool)) (a:Int):=(!(!([a].any λn=>decide (n<(0:Int))||decide (((lI cs)-(1:Int))<n))))
abbrev YY (st:List Int):=(!(!(st.any λn=>decide (n<(0:Int))||decide ((2:Int)<n))))
abbrev MH (hk:Int) (cs:List (Int×Int×Bool)) (a:Int) (st:List Int):=((True/\(0:Int)=(Vz hk cs a st)/\(5:Int)=(J4 hk cs a st)/\(([]:List SV)=[]))/\(MA hk cs a st))
abbrev ML (hk:Int) (cs:List (Int×Int×Bool)) (a:Int) (st:List Int):=((True/\(0:Int)=(Vz hk cs a st)/\(2:Int)=(J4 hk cs a st)/\(([]:List SV)=[]))/\(MA hk cs a st))
abbrev Di (hk:Int) (cs:List (Int×Int×Bool)) (a:Int) (st:List Int):=((True/\(0:Int)=(Vz hk cs a st)/\(7:Int)=(J4 hk cs a st)/\(([]:List SV)=[]))/\(MA hk cs a st))
abbrev YX (hk:Int) (cs:List (Int×Int×Bool)):=(hk=hk/\cs=cs/\hk=hk/\(([]:List SV)=[]))
abbrev YT (st:List Int):=(decide ((lI st) > (60:Int)))
def Yc (hk:Int) (cs:List (Int×Int×Bool)) (a:Int) (st:List Int):Prop :=
 ∀ w1:List Value,(True)/\((!(inI hk 1 24))=true ->
  w1=w1/\(((3:Int) != (0:Int))=true ->
   ((True/\(0:Int)=(Vz hk cs a st)/\(3:Int)=(J4 hk cs a st)/\(([]:List SV)=[]))/\(MA hk cs a st))) /\
  (((3:Int) != (0:Int))=false ->
   (I64 ((lI cs)-(1:Int)))/\([a].length<=1000000)/\((YP cs a)=true ->
    (Di hk cs a st)) /\
   ((YP cs a)=false ->
    ((YT st)=true ->
     (MH hk cs a st)) /\
    ((YT st)=false ->
     (st.length<=1000000)/\((YY st)=true ->
      (ML hk cs a st)) /\
     ((YY st)=false ->
      ∃ (e5:Unit) (d50:(List Int)×Int×Int),((True/\a=d50.2.1/\True/\st=st/\(lI st)=(lI st)/\(0:Int)=d50.2.2/\True)/\((d50.1=[]/\(List.isEmpty d50.1)=true)/\(YX hk cs)/\True)) /\
      LoopP (λ(d5:(List Int)×Int×Int) (q5:((List Int)×Int×Int)->Prop) =>
       ((decide (d5.2.2<(lI st)))=true ->
        (0<=d5.2.2)/\(d5.2.2<(List.length st))/\(1<=hk/\hk<=24/\0<=d5.2.1/\d5.2.1<cs.length/\∀ c∈cs,QT hk c=true)/\(((List.length d5.1)+(List.length [(Yh hk (cs.getD d5.2.1.toNat YB))]))*8<=70368744177664)/\(cs≠[]/\cs.length<=1000/\-1000000<=d5.2.1/\d5.2.1<=1000000/\-1000000<=(gD st d5.2.2 0)/\(gD st d5.2.2 0)<=1000000)/\(I64 (d5.2.2+(1:Int)))/\(∃ d6:(List Int)×Int×Int,((True/\(Int.tmod (d5.2.1+(gD st d5.2.2 0)) cs.length)=d6.2.1/\True/\st=st/\(lI st)=(lI st)/\(d5.2.2+(1:Int))=d6.2.2/\True)/\(((d5.1++[(Yh hk (cs.getD d5.2.1.toNat YB))])=d6.1/\false=(List.isEmpty d6.1))/\(YX hk cs)/\True))/\q5 d6)) /\
       ((decide (d5.2.2<(lI st)))=false ->
        ((True/\d5.2.1=(Vz hk cs a st)/\(0:Int)=(J4 hk cs a st)/\(([]:List SV)=[]))/\((d5.1=(GY hk cs a st)/\(List.isEmpty d5.1)=(GY hk cs a st).isEmpty)/\True)))) d50))))) /\
 ((!(inI hk 1 24))=false ->
  ((decide ((lI cs) > (60:Int)))=true ->
   w1=w1/\(((5:Int) != (0:Int))=true ->
    (MH hk cs a st)) /\
   (((5:Int) != (0:Int))=false ->
    (I64 ((lI cs)-(1:Int)))/\([a].length<=1000000)/\((YP cs a)=true ->
     (Di hk cs a st)) /\
    ((YP cs a)=false ->
     ((YT st)=true ->
      (MH hk cs a st)) /\
     ((YT st)=false ->
      (st.length<=1000000)/\((YY st)=true ->
       (ML hk cs a st)) /\
      ((YY st)=false ->
       ∃ (aD:Unit) (d100:(List Int)×Int×Int),((True/\a=d100.2.1/\True/\st=st/\(lI st)=(lI st)/\(0:Int)=d100.2.2/\True)/\((d100.1=[]/\(List.isEmpty d100.1)=true)/\(YX hk cs)/\True)) /\
       LoopP (λ(d10:(List Int)×Int×Int) (kD:((List Int)×Int×Int)->Prop) =>
        ((decide (d10.2.2<(lI st)))=true ->
         (0<=d10.2.2)/\(d10.2.2<(List.length st))/\(1<=hk/\hk<=24/\0<=d10.2.1/\d10.2.1<cs.length/\∀ c∈cs,QT hk c=true)/\(((List.length d10.1)+(List.length [(Yh hk (cs.getD d10.2.1.toNat YB))]))*8<=70368744177664)/\(cs≠[]/\cs.length<=1000/\-1000000<=d10.2.1/\d10.2.1<=1000000/\-1000000<=(gD st d10.2.2 0)/\(gD st d10.2.2 0)<=1000000)/\(I64 (d10.2.2+(1:Int)))/\(∃ d11:(List Int)×Int×Int,((True/\(Int.tmod (d10.2.1+(gD st d10.2.2 0)) cs.length)=d11.2.1/\True/\st=st/\(lI st)=(lI st)/\(d10.2.2+(1:Int))=d11.2.2/\True)/\(((d10.1++[(Yh hk (cs.getD d10.2.1.toNat YB))])=d11.1/\false=(List.isEmpty d11.1))/\(YX hk cs)/\True))/\kD d11)) /\
        ((decide (d10.2.2<(lI st)))=false ->
         ((True/\d10.2.1=(Vz hk cs a st)/\(0:Int)=(J4 hk cs a st)/\(([]:List SV)=[]))/\((d10.1=(GY hk cs a st)/\(List.isEmpty d10.1)=(GY hk cs a st).isEmpty)/\True)))) d100))))) /\
  ((decide ((lI cs) > (60:Int)))=false ->
   (1<=hk/\hk<=24/\cs.length<=1000000)/\((!(!cs.isEmpty&&!(cs.any λc=>!QT hk c)))=true ->
    w1=w1/\(((2:Int) != (0:Int))=true ->
     (ML hk cs a st)) /\
    (((2:Int) != (0:Int))=false ->
     (I64 ((lI cs)-(1:Int)))/\([a].length<=1000000)/\((YP cs a)=true ->
      (Di hk cs a st)) /\
     ((YP cs a)=false ->
      ((YT st)=true ->
       (MH hk cs a st)) /\
      ((YT st)=false ->
       (st.length<=1000000)/\((YY st)=true ->
        (ML hk cs a st)) /\
       ((YY st)=false ->
        ∃ (cZ:Unit) (d150:(List Int)×Int×Int),((True/\a=d150.2.1/\True/\st=st/\(lI st)=(lI st)/\(0:Int)=d150.2.2/\True)/\((d150.1=[]/\(List.isEmpty d150.1)=true)/\(YX hk cs)/\True)) /\
        LoopP (λ(d15:(List Int)×Int×Int) (pV:((List Int)×Int×Int)->Prop) =>
         ((decide (d15.2.2<(lI st)))=true ->
          (0<=d15.2.2)/\(d15.2.2<(List.length st))/\(1<=hk/\hk<=24/\0<=d15.2.1/\d15.2.1<cs.length/\∀ c∈cs,QT hk c=true)/\(((List.length d15.1)+(List.length [(Yh hk (cs.getD d15.2.1.toNat YB))]))*8<=70368744177664)/\(cs≠[]/\cs.length<=1000/\-1000000<=d15.2.1/\d15.2.1<=1000000/\-1000000<=(gD st d15.2.2 0)/\(gD st d15.2.2 0)<=1000000)/\(I64 (d15.2.2+(1:Int)))/\(∃ d16:(List Int)×Int×Int,((True/\(Int.tmod (d15.2.1+(gD st d15.2.2 0)) cs.length)=d16.2.1/\True/\st=st/\(lI st)=(lI st)/\(d15.2.2+(1:Int))=d16.2.2/\True)/\(((d15.1++[(Yh hk (cs.getD d15.2.1.toNat YB))])=d16.1/\false=(List.isEmpty d16.1))/\(YX hk cs)/\True))/\pV d16)) /\
         ((decide (d15.2.2<(lI st)))=false ->
          ((True/\d15.2.1=(Vz hk cs a st)/\(0:Int)=(J4 hk cs a st)/\(([]:List SV)=[]))/\((d15.1=(GY hk cs a st)/\(List.isEmpty d15.1)=(GY hk cs a st).isEmpty)/\True)))) d150))))) /\
   ((!(!cs.isEmpty&&!(cs.any λc=>!QT hk c)))=false ->
    w1=w1/\(((0:Int) != (0:Int))=true ->
     ((True/\(0:Int)=(Vz hk cs a st)/\(0:Int)=(J4 hk cs a st)/\(([]:List SV)=[]))/\(MA hk cs a st))) /\
    (((0:Int) != (0:Int))=false ->
     (I64 ((lI cs)-(1:Int)))/\([a].length<=1000000)/\((YP cs a)=true ->
      (Di hk cs a st)) /\
     ((YP cs a)=false ->
      ((YT st)=true ->
       (MH hk cs a st)) /\
      ((YT st)=false ->
       (st.length<=1000000)/\((YY st)=true ->
        (ML hk cs a st)) /\
       ((YY st)=false ->
        ∃ (wc:Unit) (d200:(List Int)×Int×Int),((True/\a=d200.2.1/\True/\st=st/\(lI st)=(lI st)/\(0:Int)=d200.2.2/\True)/\((d200.1=[]/\(List.isEmpty d200.1)=true)/\(YX hk cs)/\True)) /\
        LoopP (λ(d20:(List Int)×Int×Int) (vq:((List Int)×Int×Int)->Prop) =>
         ((decide (d20.2.2<(lI st)))=true ->
          (0<=d20.2.2)/\(d20.2.2<(List.length st))/\(1<=hk/\hk<=24/\0<=d20.2.1/\d20.2.1<cs.length/\∀ c∈cs,QT hk c=true)/\(((List.length d20.1)+(List.length [(Yh hk (cs.getD d20.2.1.toNat YB))]))*8<=70368744177664)/\(cs≠[]/\cs.length<=1000/\-1000000<=d20.2.1/\d20.2.1<=1000000/\-1000000<=(gD st d20.2.2 0)/\(gD st d20.2.2 0)<=1000000)/\(I64 (d20.2.2+(1:Int)))/\(∃ d21:(List Int)×Int×Int,((True/\(Int.tmod (d20.2.1+(gD st d20.2.2 0)) cs.length)=d21.2.1/\True/\st=st/\(lI st)=(lI st)/\(d20.2.2+(1:Int))=d21.2.2/\True)/\(((d20.1++[(Yh hk (cs.getD d20.2.1.toNat YB))])=d21.1/\false=(List.isEmpty d21.1))/\(YX hk cs)/\True))/\vq d21)) /\
         ((decide (d20.2.2<(lI st)))=false ->
          ((True/\d20.2.1=(Vz hk cs a st)/\(0:Int)=(J4 hk cs a st)/\(([]:List SV)=[]))/\((d20.1=(GY hk cs a st)/\(List.isEmpty d20.1)=(GY hk cs a st).isEmpty)/\True)))) d200)))))))
def Gs:Cx:=⟨[(3,(.i .i64))],[(87,QU),(88,J0),(104,JK),(78,Z9),(86,QM)],58,[],0,[(103,Vg)],[],[],[],false,[],[],[],[]⟩
def Tk (hk:Int) (cs:List (Int×Int×Bool)) (a:Int) (st:List Int):List (Nat×LoopAnn):=[(1,⟨Unit,(List Int)×Int×Int,[6,7,9,39,40,41],λe x=>[.lst 50,.val (.i .i64) x.2.1,.box 9 0,.val (.list (.i .i64)) st,.val (.i .i64) (((List.length st):Nat):Int),.val (.i .i64) x.2.2],λe x=>[(50,.slot 6,.lst 3 (.i .i64) x.1 (List.isEmpty x.1)),(9,.slot 9,.cells [.val (.i .i64) hk,.val (.list (.pair (.i .i64) (.pair (.i .i64) .bo))) cs,.val (.i .i64) hk] (some 119))]⟩)]
theorem TE (d:(Int×List (Int×Int×Bool))×Int×List Int):gwp (Gs) (Tk d.1.1 d.1.2 d.2.1 d.2.2) c48 0 (VF [.tmp 6,.tmp 7,.tmp 8] (M3 d) (NP d)) (Qx 58 (AL.can Gp d))=Yc d.1.1 d.1.2 d.2.1 d.2.2:=by kernel_rfl
abbrev TC:Prop:=OkC Tryz.prog 48 UP
theorem Tz (h:∀ (hk:Int) (cs:List (Int×Int×Bool)) (a:Int) (st:List Int),(cs.length<=1000/\st.length<=1000)->Yc hk cs a st):OkC Tryz.prog 48 UP :=
 Z5 Q6v mixed (C:=Gs) (V:=λ(d:(Int×List (Int×Int×Bool))×Int×List Int)=>Yc d.1.1 d.1.2 d.2.1 d.2.2) ⟨(.cons Zx (.cons X1 (.cons KS (.cons Jr (.cons Ze .nil))))),(XsOk.cons Vy XsOk.nil),ItsOk.nil,YlOk.nil,IysOk.nil,XfOk.nil⟩ (TE) λd hp=>h d.1.1 d.1.2 d.2.1 d.2.2 hp
end Go.Proofs.Tryz
namespace Go.V
open Go
theorem LM {α:Type}:∀ (j:Nat) (x:α) (l:List α),(Cw j x l).length=l.length+1
 |0,_,_=>rfl
 |j+1,x,[]=>rfl
 |j+1,x,a::l=>by simp only[Cw,xh];rw[LM j x l]
def Q1z (ap:Ap) (kk vk:Kind) (sp:PSp kk vk):XSp:=λd args s K=>match sp ap (BM s.own args) with
 |some (c,_,post)=>c/\∀ m',post m'->K (.map d) (s.make d (.map kk vk m'))
 |none=>False
def Q6f (rs:List VResult) (kk vk:Kind) (post:List (kk.T×vk.T)->Prop):Exit->St->Prop:=λe s =>
 let fin:=match JJ s rs with
  |some (.map k)=>(match S9 kk vk (Q9 s.own k) with
   |some m'=>post m'
   |none=>False)
  |_=>False
 match e with
 |.normal=>fin
 |.ret=>fin
 |_=>False
section
variable {P:Program}
theorem Q13 {f:Nat}{vc:VCode}{rs:List VResult}{nt:Nat}(h:Fun P f vc rs nt) (hm:P.follows .mixedOrders=true) {kk vk:Kind}(bF:(kk.flat&&vk.flat)=true) {sp:PSp kk vk}{ap:Ap}
  (hb:∀ fm c vs post,sp ap fm=some (c,vs,post)->c->∃ (C:Cx) (L:List (Nat×LoopAnn)) (dP:List SV),SVs.pure dP=true/\(∀ M us,SRs P M Jo Zf fm us->SRs P M Jo Zf dP us)/\COk P C/\gwp C L vc 0 (Q6f rs kk vk post) (YJ nt dP)):XOk P f (Q1z ap kk vk sp):=by
 intro B F pl tb s env M d args vals K R hG ha hx hK;unfold Q1z at hx;split at hx
 .rename_i c vs post cq;obtain⟨hc,hx⟩:=hx;obtain⟨C,L,dP,dD,kB,eo,hg⟩:=hb _ c vs post cq hc;have ax:=kB M vals (Y0 (own:=s.own) hG.leB (pl:=pl) (tb:=tb) (λd=>hG.obj d) ha);have a_:GRel P M M M (YJ nt dP) (vals++List.replicate (nt-vals.length) undef) M:=by
   refine⟨M,M,λ_=>poison,Zf,⟨.refl _,.refl _,λ_ _ _ h=>h,.refl _⟩,.refl _,.refl _,?_,λk=>?_,λk i' h1 h2=>?_,λk k' i' kC h1 h2 h3 h4=>?_,λ_ _=>rfl⟩
   .simp only[YJ];rw[ax.length];exact SRs.append (QI _ _ dD ax) (NX _)
   .simp only[YJ,Q9];trivial
   .simp only[YJ,Q9] at h1;cases h1
   .simp only[YJ,Q9] at h1;cases h1
  refine h.calls hm Dw ?_;refine Yj eo vc 0 _ _ _ M none _ trivial a_ hg λe s' af M' h1 h2=>?_
  have main:(match JJ s' rs with
   |some (.map k)=>(match S9 kk vk (Q9 s'.own k) with
    |some m'=>post m'
    |none=>False)
   |_=>False)->QX (Zv af M' rs) λv=>∃ v' aE,DropTo M v M' v' aE/\R v' aE:=λh=>by
   obtain⟨B',F',pl',tb',k1,k2⟩:=h2;split at h
   .rename_i k hr;split at h
    .rename_i m' lS;have g2:=h;have aJ:=ME lS;obtain⟨w,h3,h4⟩:=Z_ k2 hr;rw[h3];simp only[SR] at h4;obtain⟨rfl,_⟩:=h4;have ao:=k2.obj k;rw[aJ] at ao;have hle:M.Le M':=k1.f.trans k2.le;have mD:OR P B (Jm pl d (pl' k)) tb M' (pl' k) (.map kk vk m'):=ao.retd bF λ_ _=>rfl;have aq:(Q9 s'.own k).live=true:=by rw[aJ];rfl
     have fO:∀ i,Oid (pl' k) i->M.get i=none:=λi hi=>by
      cases hg:M.get i with
      |none=>rfl
      |some b =>have:=k2.fresh k i aq hi;have h9:=k1.f.2 _ _ hg;rw[this] at h9;cases h9
     have mE:Gam P B F (Jm pl d (pl' k)) tb (s.make d (.map kk vk m')) env M':=by
      refine hG.make d _ (pl' k) (hG.le.trans hle) (λj i _ hl hi=>?_) mD λi _ hi=>⟨?_,λj _ hl hj=>?_⟩
      .cases hg:M.get i with
       |none=>exact k1.d.2 i ((hG.obj j).q0w hl hi) hg
       |some bb=>exact hle.2 _ _ hg
      .cases hg:F.get i with
       |none=>rfl
       |some b=>have:=hG.le.2 _ _ hg;rw[fO i hi] at this;cases this
      .have ah:=(hG.obj j).q0w hl hj;have:=k1.d.2 i ah (fO i hi);obtain⟨id,es,clock,e1,e2,_⟩:=mD;rw[e1] at hi;obtain rfl:id=i:=osj hi;rw[this] at e2;cases e2
     refine⟨_,M',.refl _ _ _,hK _ _ B F _ tb _ M' (hx m' g2) (.of hG.bf k1.d) mE ?_⟩;obtain⟨id,es,clock,e1,_⟩:=mD;simp only[SR];exact⟨by simp[Jm],_,e1⟩
    .exact h.elim
   .exact h.elim
  cases e with
  |normal=>exact main h1
  |ret=>exact main h1
  |_=>exact h1.elim
 .exact hx.elim
theorem Q1r {f:Nat}{vc:VCode}{rs:List VResult}{nt:Nat}(h:Fun P f vc rs nt) (hm:P.follows .mixedOrders=true) {ap:Ap}(dO:Fk P ap) {kk vk:Kind}(bF:(kk.flat&&vk.flat)=true) {D:Type}{la:AL D}{pre:D->Prop}{res:D->List SV}{post:D->List (kk.T×vk.T)->Prop}
  {C:Cx}(aB:COk P C) {L:D->List (Nat×LoopAnn)}{V:D->Prop}
  (hq:∀ y,gwp C (L y) vc 0 (Q6f rs kk vk (post y)) (YJ nt (AL.can la y))=V y)
  (hb:∀ y,pre y->V y):XOk P f (Q1z ap kk vk (Q7h la pre res post)):=Q13 h hm bF λfm c vs q hs hc=>by
 unfold Q7h at hs;split at hs
 .rename_i y h2;obtain⟨rfl,rfl,rfl⟩:=(by simpa using hs:pre y=c/\res y=vs/\post y=q);exact⟨C,L y,AL.can la y,AL.q0l la y,λM vs hv=>AL.q0k dO la h2 hv,aB,(hq y).mpr (hb y hc)⟩
 .cases hs
end
end Go.V
namespace Go.V
open Go
abbrev KSp (kk vk:Kind):=Ap->List (kk.T×vk.T)->List SV->Option (Prop×SV×(List (kk.T×vk.T)->Prop))
def OV (ap:Ap) (j:Nat) (kk vk:Kind) (sp:KSp kk vk):XSp:=λ_ args s K =>
 match args[j]? with
 |some (.map o)=>(match S9 kk vk (Q9 s.own o) with
  |some m=>(match sp ap m (BM (oset s.own o .dead) (Ca j args)) with
   |some (c,v,post)=>bif v.ret 0 then c/\∀ m',post m'->K v ⟨s.env,oset s.own o (.map kk vk m'),s.nx⟩ else False
   |none=>False)
  |none=>False)
 |_=>False
def Dl (nt j:Nat) (kk vk:Kind) (m:List (kk.T×vk.T)) (vals:List Value) (args:List SV):St:=⟨Cw j (.map 0) args++List.replicate (nt-(args.length+1)) .any,[(0,.map kk vk m),(4000000,.stk [.map 0] vals)],0⟩
def Z4u {kk vk:Kind}{D:Type}(la:AL D) (pre:List (kk.T×vk.T)->D->Prop) (res:List (kk.T×vk.T)->D->SV) (post:List (kk.T×vk.T)->D->List (kk.T×vk.T)->Prop):KSp kk vk:=λap m fm=>match AL.dec ap la fm with
 |some a=>some (pre m a,res m a,post m a)
 |none=>none
section
variable {P:Program}
theorem Q23 {f:Nat}{vc:VCode}{rs:List VResult}{nt:Nat}(h:Fun P f vc rs nt) (hm:P.follows .mixedOrders=true) {kk vk:Kind}(bF:(kk.flat&&vk.flat)=true) {sp:KSp kk vk}{ap:Ap}{j:Nat}
  (hb:∀ m fm c v post,sp ap m fm=some (c,v,post)->c->∃ (C:Cx) (L:List Value->List (Nat×LoopAnn)) (dP:List SV),SVs.pure dP=true/\(∀ M vs,SRs P M Jo Zf fm vs->SRs P M Jo Zf dP vs)/\COk P C/\∀ vals,gwp C (L vals) vc 0 (Q5r vals rs v kk vk post) (Dl nt j kk vk m vals dP)):XOk P f (OV ap j kk vk sp):=by
 intro B F pl tb s env M d args vs K R hG ha hx hK;unfold OV at hx;split at hx
 .rename_i o ia;split at hx
  .rename_i m aH;have aJ:=ME aH;split at hx
   .rename_i c v post cq;cases bW:v.ret 0 with
    |false=>rw[bW] at hx;exact hx.elim
    |true =>
    rw[bW] at hx;obtain⟨hc,hx⟩:=hx;obtain⟨w,hw,rK,rL⟩:=I5 j ia ha;simp only[SR] at hw;obtain rfl:w=pl o:=hw.1;have aq:(Q9 s.own o).live=true:=by rw[aJ];rfl
    have ao:=hG.obj o;rw[aJ] at ao;obtain⟨id,es,clock,iE,bc,eP⟩:=ao;have o8:F.get id=none:=hG.fresh o id aq (by rw[iE];rfl);have mF:B.get id=none:=by
     cases hg:B.get id with
     |none=>rfl
     |some b=>have:=hG.bf.2 _ _ hg;rw[o8] at this;cases this
    obtain⟨C,L,dP,dD,kB,eo,hg⟩:=hb _ _ c v post cq hc;have hg:=hg [pl o];have vt:oid (pl o)=some id:=by rw[iE];rfl
    let σc:=M.kill id;have pR:B.Le σc:=hG.leB.kill' mF;have pS:F.Le σc:=hG.le.kill' o8;have rM:σc.Le M:=Heap.q2d _ _;have bS:∀ k,k≠id->σc.get k=M.get k:=λk hk=>Heap.q0d _ hk;have bO:∀ d,OR P σc Jo Zf σc (pl d) ((Q9 (oset s.own o .dead) d).kill d)\/True:=λ_=>.inr trivial;have vu:∀ (xs:List SV) (vs:List Value),SRs P B pl tb xs vs->SRs P σc Jo Zf (BM (oset s.own o .dead) xs) vs:=λxs vs br=>by
     refine Y0 (own:=oset s.own o .dead) pR (pl:=pl) (tb:=tb) (λd=>?_) br;rw[Qk];by_cases e:d=o
     .rw[z7 e];trivial
     .rw[z8 e];exact(hG.obj d).mono (.refl _) (λ_ _ h=>h) λhl i hi=>bS _ λj8=>hG.sep d o i e hl aq hi (by rw[iE,j8];rfl)
    have ax:=kB σc _ (vu _ _ rK);let jH:Nat->Value:=λk=>if k=0 then pl o else poison
    have lF:∀ (B:Heap) (tb':Nat->Option Bool),SR P B jH tb' (.map 0) (pl o):=λB tb'=>by simp only[SR];exact⟨by simp[jH],_,iE⟩
    have a_:GRel P σc σc M (Dl nt j kk vk m [pl o] dP) (vs++List.replicate (nt-vs.length) undef) M:=by
     refine⟨σc,σc,jH,Zf,⟨.refl _,.refl _,λ_ _ _ h=>h,.refl _⟩,.refl _,rM,?_,λk=>?_,λk i' h1 h2=>?_,λk k' i' kC h1 h2 h3 h4=>?_,λ_ _=>rfl⟩
     .have h0:=rL σc jH Zf dP (.map 0) (QI _ _ dD ax) (lF _ _);have hl:=h0.length;rw[LM] at hl;simp only[Dl];rw[hl];exact SRs.append h0 (NX _)
     .simp only[Dl,Q9];by_cases e0:k=0
      .subst e0;simp only[Nat.beq_refl,zj];exact⟨id,es,clock,by simp[jH,iE],bc,eP.mono pR⟩
      .rw[Zo (λe=>e0 e.symm),cond_false];by_cases e1:k=4000000
       .subst e1;simp only[Nat.beq_refl,zj];exact⟨pl o,[],rfl,lF _ _,rfl⟩
       .rw[Zo (λe=>e1 e.symm),cond_false];trivial
     .simp only[Dl,Q9] at h1;by_cases e0:k=0
      .subst e0;have:Oid (pl o) i':=by simpa [jH] using h2
       rw[iE] at this;obtain rfl:id=i':=osj this;exact Heap.q0g _ _
      .rw[Zo (λe=>e0 e.symm),cond_false] at h1;by_cases e1:k=4000000
       .subst e1;cases h1
       .rw[Zo (λe=>e1 e.symm),cond_false] at h1;cases h1
     .have z:∀ k,(Q9 (Dl nt j kk vk m [pl o] dP).own k).live=true->k=0:=λk h1=>by
       simp only[Dl,Q9] at h1;by_cases e0:k=0
       .exact e0
       .rw[Zo (λe=>e0 e.symm),cond_false] at h1;by_cases e1:k=4000000
        .subst e1;cases h1
        .rw[Zo (λe=>e1 e.symm),cond_false] at h1;cases h1
      exact kC ((z k h1).trans (z k' h2).symm)
    refine h.calls hm Dw ?_;refine Yj eo vc 0 _ _ _ M none _ trivial a_ hg λe s' af M' h1 h2=>?_
    have main:(match JJ s' rs,Q9 s'.own 4000000,S9 kk vk (Q9 s'.own 0) with
     |some r,.stk l vs,some m'=>vs=[pl o]/\U4 [(0,some 0)] [.map 0] l/\BK [] v r/\post m'
     |_,_,_=>False)->QX (Zv af M' rs) λv=>∃ v' aE,DropTo M v M' v' aE/\R v' aE:=λh=>by
     obtain⟨B',F',pl',tb',k1,k2⟩:=h2;split at h
     .rename_i r l' cS m' hr gN ng;obtain⟨rfl,m1,m2,m3⟩:=h;have fL:=ME ng;obtain⟨w,h3,h4⟩:=Z_ k2 hr;rw[h3];have fR:=k2.obj 4000000;rw[gN] at fR;have mH:pl' 0=pl o:=by
       have:=Z0 [.map 0] l' [pl o] m1 fR;simp only[SRs,SR] at this;obtain⟨u',_,cy,⟨h5,_⟩,_⟩:=this;obtain rfl:pl o=u':=(zR cy).1;simpa [VE,Qs] using h5.symm
      have ji:=k2.obj 0;rw[fL,mH] at ji;have dj:=(Y6 v r w m2 h4).retd (B':=B) (pl':=pl) (tb':=tb) (n:=0) (λj hj=>by omega) _ _ bW;have hle:σc.Le M':=k1.f.trans k2.le;have o9:∀ d,d≠o->(Q9 s.own d).live=true->∀ i,Oid (pl d) i->M'.get i=M.get i:=λd e hl i hi=>by
       have ah:=(hG.obj d).q0w hl hi;have vw:i≠id:=λj8=>hG.sep d o i e hl aq hi (by rw[iE,j8];rfl);cases hg:M.get i with
       |none=>exact k1.d.2 i ah hg
       |some bb=>exact hle.2 _ _ (by rw[bS i vw];exact hg)
      have bU:∀ d,(Q9 (oset s.own o (.map kk vk m')) d).live=(Q9 s.own d).live:=λd=>by
       rw[Qk];by_cases e:d=o
       .subst e;rw[z7 rfl,aq];rfl
       .rw[z8 e]
      refine⟨w,M',.refl _ _ _,hK v _ B F pl tb w M' (hx m' m3) (.of hG.bf k1.d) ⟨hG.bf,pS.trans hle,hG.env,λd=>?_,λd i q1 q2=>hG.fresh d i (by rw[<-bU d];exact q1) q2,λd d' i az q1 q2 q3 q4=>hG.sep d d' i az (by rw[<-bU d];exact q1) (by rw[<-bU d'];exact q2) q3 q4,hG.free⟩ dj⟩
      .simp only[Qk];by_cases e:d=o
       .subst e;rw[z7 rfl];exact ji.retd bF λ_ _=>rfl
       .rw[z8 e];exact(hG.obj d).mono (.refl _) (λ_ _ h=>h) λhl i hi=>o9 d e hl i hi
     .exact h.elim
    cases e with
    |normal=>exact main h1
    |ret=>exact main h1
    |_=>exact h1.elim
   .exact hx.elim
  .exact hx.elim
 .exact hx.elim
theorem Q0h {f:Nat}{vc:VCode}{rs:List VResult}{nt:Nat}(h:Fun P f vc rs nt) (hm:P.follows .mixedOrders=true) {ap:Ap}(dO:Fk P ap) {kk vk:Kind}(bF:(kk.flat&&vk.flat)=true) {j:Nat}{D:Type}{la:AL D}{pre:List (kk.T×vk.T)->D->Prop}{res:List (kk.T×vk.T)->D->SV}{post:List (kk.T×vk.T)->D->List (kk.T×vk.T)->Prop}
  {C:Cx}(aB:COk P C) {L:List (kk.T×vk.T)->D->List Value->List (Nat×LoopAnn)}{V:List (kk.T×vk.T)->D->Prop}
  (hq:∀ m y,(∀ vals,gwp C (L m y vals) vc 0 (Q5r vals rs (res m y) kk vk (post m y)) (Dl nt j kk vk m vals (AL.can la y)))=V m y)
  (hb:∀ m y,pre m y->V m y):XOk P f (OV ap j kk vk (Z4u la pre res post)):=Q23 h hm bF λm fm c v q hs hc=>by
 unfold Z4u at hs;split at hs
 .rename_i y h2;obtain⟨rfl,rfl,rfl⟩:=(by simpa using hs:pre m y=c/\res m y=v/\post m y=q);exact⟨C,L m y,AL.can la y,AL.q0l la y,λM vs hv=>AL.q0k dO la h2 hv,aB,(hq m y).mpr (hb m y hc)⟩
 .cases hs
end
end Go.V
namespace Go.Proofs.Tryz
open Go Go.V Go.Proofs
def Jd (n mo:Nat):List (Int×Int):=(List.range n).flatMap λ(a:Nat)=>(List.range (mo+1)).map λ(f:Nat)=>((a:Int),(f:Int))
def G8 (n:Int) (p:Int×Int) (s:Int):Int×Int:=(Int.tmod (p.1+s) n,p.2+if s=1 then 0 else 1)
def B8 (n mo:Int) (p:Int×Int) (w:Int) (q:Int×Int) (s:Int):Int:=if G8 n p s=q/\q.2<=mo then w else 0
def RS (n mo:Int) (wv:Int->Bool) (p:Int×Int) (w:Int) (q:Int×Int):Int:=if wv p.1=true then B8 n mo p w q 0+B8 n mo p w q 1+B8 n mo p w q 2 else 0
def wyK (n mo:Nat) (wv:Nat->Int->Bool):Nat->Int×Int->Int
 |0,q=>if 0<=q.1/\q.1<(n:Int)/\q.2=0 then 1 else 0
 |k+1,q=>((Jd n mo).map λp=>RS n mo (wv k) p (wyK n mo wv k p) q).sum
def MapW (n mo:Nat) (m:List ((Int×Int)×Int)) (W:Int×Int->Int):Prop:=(m.map (·.1)).Nodup/\(∀ e∈m,e.2=W e.1/\0<e.2/\e.1∈Jd n mo)/\∀ q,W q≠0->∃ e∈m,e.1=q
theorem JI {n mo:Nat}{q:Int×Int}:q∈Jd n mo<->(0<=q.1/\q.1<n)/\0<=q.2/\q.2<=mo:=by
 unfold Jd;simp only[List.mem_flatMap,zD,zE];constructor
 .rintro⟨a,ha,f,hf,rfl⟩;dsimp only;omega
 .intro h;exact⟨q.1.toNat,by omega,q.2.toNat,by omega,by ext<;>dsimp only<;>omega⟩
theorem MJ (n mo:Nat):(Jd n mo).Nodup:=by unfold Jd;refine List.pairwise_flatMap.2 ⟨λa _=>wO.2 ((List.nodup_range (n:=mo+1)).imp λh e=>h (by have:=(Prod.ext_iff.1 e).2;dsimp only at this;omega)),(List.nodup_range (n:=n)).imp λ{a b} h x hx y hy e=>?_⟩;obtain⟨f,_,rfl⟩:=zE.1 hx;obtain⟨g,_,rfl⟩:=zE.1 hy;have:=(Prod.ext_iff.1 e).1;dsimp only at this;omega
theorem A7 {l l':List Int}(h:l.Perm l'):l.sum=l'.sum:=by
 induction h with
 |nil=>rfl
 |cons x _ ih=>simp only[xI];omega
 |swap x y l=>simp only[xI];omega
 |trans _ _ h1 h2=>exact h1.trans h2
theorem Ht {α:Type}{f:α->Int}:∀ {l:List α},(∀ x∈l,f x=0)->(l.map f).sum=0
 |[],_=>rfl
 |x::l,h=>by rw[zJ,xI,h x (zu ..),Ht λy hy=>h y (zi _ hy)];rfl
theorem K9 {α:Type}{f:α->Int}:∀ {l:List α},(∀ x∈l,0<=f x)->0<=(l.map f).sum
 |[],_=>Int.le_refl _
 |x::l,h=>by have h1:=h x (zu ..);have h2:=K9 (l:=l) λy hy=>h y (zi _ hy);rw[zJ,xI];omega
theorem Sn {α:Type}(f:α->Int) (a b:List α):((a++b).map f).sum=(a.map f).sum+(b.map f).sum:=by rw[xN,List.sum_append_int]
theorem PU {n mo:Nat}{m:List ((Int×Int)×Int)}{W:Int×Int->Int}(h:MapW n mo m W) (G:Int×Int->Int->Int) (h0:∀ p,G p 0=0):(m.map λe=>G e.1 e.2).sum=((Jd n mo).map λp=>G p (W p)).sum:=by
 obtain⟨h1,h2,h3⟩:=h;have e1:(m.map λe=>G e.1 e.2)=(m.map (·.1)).map λp=>G p (W p):=by
  rw[wQ];exact xc λe he=>by show G e.1 e.2=G e.1 (W e.1);rw[(h2 e he).1]
 have hp:((m.map (·.1))++(Jd n mo).filter λp=>!(m.map (·.1)).contains p).Perm (Jd n mo):=by
  refine (w6 (List.nodup_append.2 ⟨h1,(MJ n mo).filter _,λa ha b hb e=>?_⟩) (MJ n mo)).2 λa=>?_
  .subst e;have:=(zX.1 hb).2;simp at this;obtain⟨x,hx⟩:=zE.1 ha;exact this x.2 (by rw[<-hx.2];exact hx.1)
  .rw[zQ,zX];constructor
   .rintro (h|h)
    .obtain⟨e,he,rfl⟩:=zE.1 h;exact(h2 e he).2.2
    .exact h.1
   .intro h;by_cases hc:a∈m.map (·.1)
    .exact .inl hc
    .exact .inr ⟨h,by simpa using hc⟩
 rw[e1,<-A7 (hp.map λp=>G p (W p)),Sn];have:(((Jd n mo).filter λp=>!(m.map (·.1)).contains p).map λp=>G p (W p)).sum=0:=Ht λp hp=>by
  have hc:=(zX.1 hp).2;have:W p=0:=by
   by_cases e:W p=0
   .exact e
   .obtain⟨x,hx,rfl⟩:=h3 p e;have:x.1∈m.map (·.1):=zE.2 ⟨x,hx,rfl⟩;simp[this] at hc
  rw[this,h0]
 rw[this];omega
def XK (m:List ((Int×Int)×Int)) (k:Int×Int):Int:=gq.aget (.pair (.i .i64) (.i .i64)) m k 0
def Mo (m:List ((Int×Int)×Int)) (k:Int×Int) (v:Int):List ((Int×Int)×Int):=TB (.pair (.i .i64) (.i .i64)) m k v
theorem Z1k {a b:Int×Int}:gq.keq (.pair (.i .i64) (.i .i64)) a b=true<->a=b:=by show ((a.1==b.1)&&(a.2==b.2))=true<->_;simp only[z6,zT,Prod.ext_iff]
theorem KG (a:Int×Int) (b:Int) (m:List ((Int×Int)×Int)) (k:Int×Int):XK ((a,b)::m) k=if k=a then b else XK m k:=by
 show (if gq.keq (.pair (.i .i64) (.i .i64)) k a=true then b else gq.aget (.pair (.i .i64) (.i .i64)) m k 0)=_;by_cases h:k=a
 .rw[z7 (Z1k.2 h),z7 h]
 .rw[z8 (λe=>h (Z1k.1 e)),z8 h];rfl
theorem Ks (a:Int×Int) (b:Int) (m:List ((Int×Int)×Int)) (k:Int×Int) (v:Int):Mo ((a,b)::m) k v=if k=a then (k,v)::m else (a,b)::Mo m k v:=by
 show (if gq.keq (.pair (.i .i64) (.i .i64)) k a=true then (k,v)::m else (a,b)::TB (.pair (.i .i64) (.i .i64)) m k v)=_;by_cases h:k=a
 .rw[z7 (Z1k.2 h),z7 h]
 .rw[z8 (λe=>h (Z1k.1 e)),z8 h];rfl
theorem FY {m:List ((Int×Int)×Int)}(hn:(m.map (·.1)).Nodup) {e:(Int×Int)×Int}(he:e∈m):XK m e.1=e.2:=by
 induction m with
 |nil=>cases he
 |cons x m ih =>
  obtain⟨a,b⟩:=x;rw[zJ,xt] at hn;rw[KG];rcases zn.1 he with rfl|he
  .rw[z7 rfl]
  .have:e.1≠a:=λh=>hn.1 (by rw[<-h];exact zE.2 ⟨e,he,rfl⟩);rw[z8 this];exact ih hn.2 he
theorem L_ {k:Int×Int}:∀ {m:List ((Int×Int)×Int)},(∀ e∈m,e.1≠k)->XK m k=0
 |[],_=>rfl
 |(a,b)::m,h=>by rw[KG,z8 λe=>h (a,b) (zu ..) e.symm];exact L_ λe he=>h e (zi _ he)
theorem MapW.get {n mo:Nat}{m:List ((Int×Int)×Int)}{W:Int×Int->Int}(h:MapW n mo m W) (q:Int×Int):XK m q=W q:=by
 by_cases hz:W q=0
 .rw[hz];refine L_ λe he hq=>?_;have:=h.2.1 e he;rw[hq,hz] at this;omega
 .obtain⟨e,he,rfl⟩:=h.2.2 q hz;rw[FY h.1 he];exact(h.2.1 e he).1
theorem AD (k:Int×Int) (v:Int):∀ (m:List ((Int×Int)×Int)),(m.map (·.1)).Nodup->(∀ e∈Mo m k v,e=(k,v)\/e∈m/\e.1≠k)/\(k,v)∈Mo m k v/\(∀ e∈m,e.1≠k->e∈Mo m k v)/\((Mo m k v).map (·.1)).Nodup
 |[],_=>⟨λe he=>.inl (zo.1 he),zo.2 rfl,λe he=>(by cases he),List.pairwise_singleton _ _⟩
 |(a,b)::m,hn=>by
  rw[zJ,xt] at hn;obtain⟨h1,h2,h3,h4⟩:=AD k v m hn.2;rw[Ks];by_cases hk:k=a
  .subst hk;rw[z7 rfl];refine⟨λe he=>?_,zu ..,λe he az=>?_,by rw[zJ,xt];exact hn⟩
   .rcases zn.1 he with h|h
    .exact .inl h
    .exact .inr ⟨zi _ h,λe2=>hn.1 (zE.2 ⟨e,h,e2⟩)⟩
   .rcases zn.1 he with h|h
    .rw[h] at az;exact(az rfl).elim
    .exact zi _ h
  .rw[z8 hk];refine⟨λe he=>?_,zi _ h2,λe he az=>?_,?_⟩
   .rcases zn.1 he with h|h
    .subst h;exact .inr ⟨zu ..,λe=>hk e.symm⟩
    .rcases h1 e h with h|h
     .exact .inl h
     .exact .inr ⟨zi _ h.1,h.2⟩
   .rcases zn.1 he with h|h
    .rw[h];exact zu ..
    .exact zi _ (h3 e h az)
   .rw[zJ,xt];refine⟨λhm=>?_,h4⟩;obtain⟨e,he,jW⟩:=zE.1 hm;rcases h1 e he with h|h
    .rw[h] at jW;exact hk jW
    .exact hn.1 (zE.2 ⟨e,h.1,jW⟩)
theorem MapW.add {n mo:Nat}{m:List ((Int×Int)×Int)}{W:Int×Int->Int}(h:MapW n mo m W) (hW:∀ q,0<=W q) {k:Int×Int}{w:Int}(hw:0<w) (hk:k∈Jd n mo):MapW n mo (Mo m k (XK m k+w)) (λq=>W q+if q=k then w else 0):=by
 obtain⟨p1,p2,p3,p4⟩:=AD k (XK m k+w) m h.1;have hg:=h.get k;have we:=hW k;refine⟨p4,λe he=>?_,λq hq=>?_⟩
 .rcases p1 e he with rfl|⟨h1,h2⟩
  .dsimp only;rw[z7 rfl];exact⟨by omega,by omega,hk⟩
  .dsimp only;rw[z8 h2];have:=h.2.1 e h1;exact⟨by omega,this.2⟩
 .by_cases e:q=k
  .exact⟨_,p2,e.symm⟩
  .dsimp only at hq;rw[z8 e] at hq;obtain⟨x,hx,rfl⟩:=h.2.2 q (by omega);exact⟨x,p3 x hx e,rfl⟩
theorem MapW.congr {n mo:Nat}{m:List ((Int×Int)×Int)}{W W':Int×Int->Int}(h:MapW n mo m W) (e:∀ q,W q=W' q):MapW n mo m W':=by have:W=W':=funext e;rw[<-this];exact h
theorem MapW.nil (n mo:Nat):MapW n mo [] λ_=>0:=⟨List.nodup_nil,(λe he=>by cases he),λq hq=>(hq rfl).elim⟩
theorem VA {n mo:Int}{p:Int×Int}{w:Int}{q:Int×Int}{s:Int}(hw:0<=w):0<=B8 n mo p w q s/\B8 n mo p w q s<=w:=by unfold B8;split<;>omega
theorem GO {n mo:Int}{wv:Int->Bool}{p:Int×Int}{w:Int}{q:Int×Int}(hw:0<=w):0<=RS n mo wv p w q:=by have h0:=(VA (n:=n) (mo:=mo) (p:=p) (q:=q) (s:=0) hw).1;have h1:=(VA (n:=n) (mo:=mo) (p:=p) (q:=q) (s:=1) hw).1;have h2:=(VA (n:=n) (mo:=mo) (p:=p) (q:=q) (s:=2) hw).1;unfold RS;split<;>omega
theorem VN (n mo:Nat) (wv:Nat->Int->Bool):∀ k q,0<=wyK n mo wv k q
 |0,q=>by simp only[wyK];split<;>omega
 |k+1,q=>K9 λp _=>GO (VN n mo wv k p)
theorem Se (n mo:Nat) (wv:Nat->Int->Bool) (hn:0<n):∀ k q,wyK n mo wv k q≠0->q∈Jd n mo
 |0,q,h=>by
  simp only[wyK] at h;split at h
  .rename_i h2;rw[JI];omega
  .exact(h rfl).elim
 |k+1,q,h=>by
  simp only[wyK] at h;by_cases hq:q∈Jd n mo
  .exact hq
  .exfalso;refine h (Ht λp hp=>?_);rw[JI] at hp hq;have z:∀ s:Int,0<=s->B8 n mo p (wyK n mo wv k p) q s=0:=λs hs=>by
    unfold B8;rw[z8];rintro⟨h1,h2⟩;apply hq;have e1:=(Prod.ext_iff.1 h1).1;have e2:=(Prod.ext_iff.1 h1).2;unfold G8 at e1 e2;dsimp only at e1 e2;rw[Int.tmod_eq_emod_of_nonneg (by omega)] at e1;have b1:=Int.emod_nonneg (p.1+s) (show (n:Int)≠0 by omega);have b2:=Int.emod_lt_of_pos (p.1+s) (show (0:Int)<n by omega);split at e2<;>omega
   unfold RS;rw[z 0 (by omega),z 1 (by omega),z 2 (by omega)];split<;>rfl
theorem IG {α:Type}{f:α->Int}{B:Int}(hB:0<=B):∀ {l:List α},l.Nodup->(∀ x∈l,0<=f x/\f x<=B)->(∀ x∈l,∀ y∈l,f x≠0->f y≠0->x=y)->(l.map f).sum<=B
 |[],_,_,_=>hB
 |x::l,hn,hb,h1=>by
  rw[xt] at hn;rw[zJ,xI];by_cases hx:f x=0
  .have:=IG hB hn.2 (λy hy=>hb y (zi _ hy)) λy hy z hz=>h1 y (zi _ hy) z (zi _ hz);omega
  .have hz:(l.map f).sum=0:=Ht λy hy=>by
    by_cases e:f y=0
    .exact e
    .exact(hn.1 (by rw[h1 x (zu ..) y (zi _ hy) hx e];exact hy)).elim
   have:=hb x (zu ..);omega
theorem Q5j {n:Int}{p p':Int×Int}{s:Int}(hs:0<=s) (h1:0<=p.1/\p.1<n) (h2:0<=p'.1/\p'.1<n) (h:G8 n p s=G8 n p' s):p=p':=by
 have e1:=(Prod.ext_iff.1 h).1;have e2:=(Prod.ext_iff.1 h).2;unfold G8 at e1 e2;dsimp only at e1 e2;rw[Int.tmod_eq_emod_of_nonneg (by omega),Int.tmod_eq_emod_of_nonneg (by omega)] at e1;have h3:p.1=p'.1:=by
  have a1:=Int.emod_add_emod p.1 n s;have:=Int.emod_emod_of_dvd;have d:(p.1-p'.1) % n=0:=by
   have:(p.1+s-(p'.1+s)) % n=0:=Int.emod_eq_emod_iff_emod_sub_eq_zero.1 e1
   rwa [show p.1+s-(p'.1+s)=p.1-p'.1 by omega] at this
  obtain⟨c,hc⟩:=Int.dvd_of_emod_eq_zero d;have c1:c<1:=by
   by_cases h:1<=c
   .have:=Int.mul_le_mul_of_nonneg_left h (show 0<=n by omega);omega
   .omega
  have c2:-1<c:=by
   by_cases h:c<=-1
   .have:=Int.mul_le_mul_of_nonneg_left h (show 0<=n by omega);omega
   .omega
  have:c=0:=by omega
  rw[this] at hc;omega
 exact Prod.ext h3 (by omega)
theorem Q34 {α:Type}{f g:α->Int}:∀ {l:List α},(∀ x∈l,f x<=g x)->(l.map f).sum<=(l.map g).sum
 |[],_=>Int.le_refl _
 |x::l,h=>by have h1:=h x (zu ..);have h2:=Q34 (l:=l) λy hy=>h y (zi _ hy);rw[zJ,zJ,xI,xI];omega
theorem Cm {α:Type}(f g:α->Int):∀ (l:List α),(l.map λx=>f x+g x).sum=(l.map f).sum+(l.map g).sum
 |[]=>rfl
 |x::l=>by have:=Cm f g l;rw[zJ,zJ,zJ,xI,xI,xI];omega
theorem IQ {n mo:Nat}{V:Int×Int->Int}{q:Int×Int}{s B:Int}(hs:0<=s) (hB:0<=B) (hV:∀ p,0<=V p) (hb:∀ p∈Jd n mo,G8 n p s=q->V p<=B):((Jd n mo).map λp=>B8 n mo p (V p) q s).sum<=B:=by
 refine IG hB (MJ n mo) (λp hp=>?_) λp hp p' bw h1 h2=>?_
 .have:=VA (n:=n) (mo:=mo) (p:=p) (q:=q) (s:=s) (hV p);refine⟨this.1,?_⟩;by_cases hq:G8 n p s=q
  .have:=hb p hp hq;omega
  .unfold B8;rw[z8 λh=>hq h.1];exact hB
 .rw[JI] at hp bw;have e1:G8 n p s=q:=by
   by_cases h:G8 n p s=q
   .exact h
   .unfold B8 at h1;rw[z8 λh'=>h h'.1] at h1;exact(h1 rfl).elim
  have e2:G8 n p' s=q:=by
   by_cases h:G8 n p' s=q
   .exact h
   .unfold B8 at h2;rw[z8 λh'=>h h'.1] at h2;exact(h2 rfl).elim
  exact Q5j hs hp.1 bw.1 (e1.trans e2.symm)
theorem AX {n mo:Nat}(wv:Nat->Int->Bool) (hn:0<n):∀ (k:Nat) (q:Int×Int),0<=q.2->wyK n mo wv k q<=((2*k+1) ^ q.2.toNat:Nat)
 |0,q,hq=>by simp only[wyK];have:0<(2*0+1) ^ q.2.toNat:=Nat.pow_pos (by omega);split<;>omega
 |k+1,q,hq=>by
  have iD:=VN n mo wv k;have h0:wyK n mo wv (k+1) q<=((Jd n mo).map λp=>(B8 n mo p (wyK n mo wv k p) q 0+B8 n mo p (wyK n mo wv k p) q 1)+B8 n mo p (wyK n mo wv k p) q 2).sum:=Q34 λp _=>by have a0:=(VA (n:=n) (mo:=mo) (p:=p) (q:=q) (s:=0) (iD p)).1;have a1:=(VA (n:=n) (mo:=mo) (p:=p) (q:=q) (s:=1) (iD p)).1;have a2:=(VA (n:=n) (mo:=mo) (p:=p) (q:=q) (s:=2) (iD p)).1;unfold RS;split<;>omega
  rw[Cm,Cm] at h0;obtain⟨f,hf⟩:∃ f:Nat,q.2=f:=⟨q.2.toNat,by omega⟩;have b1:((Jd n mo).map λp=>B8 n mo p (wyK n mo wv k p) q 1).sum<=((2*k+1) ^ f:Nat):=IQ (by omega) (by omega) iD λp hp he=>by
   rw[JI] at hp;have e2:=(Prod.ext_iff.1 he).2;unfold G8 at e2;dsimp only at e2;rw[z7 rfl] at e2;have:=AX (n:=n) (mo:=mo) wv hn k p hp.2.1
   rwa [show p.2.toNat=f by omega] at this
  have bs:∀ s:Int,0<=s->s≠1->((Jd n mo).map λp=>B8 n mo p (wyK n mo wv k p) q s).sum<=((if f=0 then 0 else (2*k+1) ^ (f-1):Nat):Int):=λs hs kj=>IQ hs (by omega) iD λp hp he=>by
   rw[JI] at hp;have e2:=(Prod.ext_iff.1 he).2;unfold G8 at e2;dsimp only at e2;rw[z8 kj] at e2;have:=AX (n:=n) (mo:=mo) wv hn k p hp.2.1;rw[z8 (by omega)]
   rwa [show p.2.toNat=f-1 by omega] at this
  have b0:=bs 0 (by omega) (by omega);have b2:=bs 2 (by omega) (by omega);rw[hf,zq];have key:(2*k+1) ^ f+2*(if f=0 then 0 else (2*k+1) ^ (f-1))<=(2*(k+1)+1) ^ f:=by
   cases f with
   |zero=>simp
   |succ g =>
    rw[z8 (by omega),Nat.add_sub_cancel];have hp:(2*k+1) ^ g<=(2*(k+1)+1) ^ g:=Nat.pow_le_pow_left (by omega) g;have h1:(2*k+1) ^ (g+1)+2*(2*k+1) ^ g=(2*k+1) ^ g*(2*(k+1)+1):=by
     rw[Nat.pow_succ];generalize (2*k+1) ^ g=A;have:A*(2*(k+1)+1)=A*(2*k+1)+A*2:=by rw[<-wS];congr 1
     omega
    rw[h1,Nat.pow_succ];exact zr _ hp
  omega
theorem CX {α:Type}{d:α}{m:List α}{F:α->Int}{dn:List Nat}(hn:dn.Nodup) (ah:∀ r∈dn,r<m.length) (hF:∀ x∈m,0<=F x):(dn.map λr=>F (m.getD r d)).sum<=(m.map F).sum/\((∀ r,r<m.length->r∈dn)->(dn.map λr=>F (m.getD r d)).sum=(m.map F).sum):=by
 have e:m.map F=(List.range m.length).map λr=>F (m.getD r d):=by
  refine List.ext_getElem (by simp) λi h1 h2=>?_;have hi:i<m.length:=by simpa using h1
  rw[xS,xS,List.getElem_range,Qh hi]
 have hp:(dn++(List.range m.length).filter λr=>!dn.contains r).Perm (List.range m.length):=by
  refine (w6 (List.nodup_append.2 ⟨hn,(List.nodup_range (n:=m.length)).filter _,λa ha b hb e=>?_⟩) List.nodup_range).2 λa=>?_
  .subst e;have:=(zX.1 hb).2;simp[ha] at this
  .rw[zQ,zX,zD];constructor
   .rintro (h|h)
    .exact ah a h
    .exact h.1
   .intro h;by_cases hc:a∈dn
    .exact .inl hc
    .exact .inr ⟨h,by simpa using hc⟩
 rw[e,<-A7 (hp.map λr=>F (m.getD r d)),Sn];constructor
 .have:0<=(((List.range m.length).filter λr=>!dn.contains r).map λr=>F (m.getD r d)).sum:=K9 λr hr=>by
   have hr:=zD.1 (zX.1 hr).1;rw[Qh hr];exact hF _ (zp hr)
  omega
 .intro h;have:(List.range m.length).filter (λr=>!dn.contains r)=[]:=List.filter_eq_nil_iff.2 λr hr=>by have:=h r (zD.1 hr);simp[this]
  rw[this];simp
def wvB (hk:Int) (cs:List V8) (cl:List Int) (k:Nat) (a:Int):Bool:=(cl.getD k 0==-1)||(cl.getD k 0==Yh hk (cs.getD a.toNat YB))
theorem La (k:Int×Int) (a b:Int):∀ m:List ((Int×Int)×Int),Mo (Mo m k a) k b=Mo m k b
 |[]=>by show Mo [(k,a)] k b=[(k,b)];rw[Ks,z7 rfl]
 |(x,v)::m=>by
  rw[Ks,Ks];by_cases h:k=x
  .rw[z7 h,z7 h,Ks,z7 rfl]
  .rw[z8 h,z8 h,Ks,z8 h,La k a b m]
theorem Lk (k q:Int×Int) (v:Int):∀ m:List ((Int×Int)×Int),XK (Mo m k v) q=if q=k then v else XK m q
 |[]=>by show XK [(k,v)] q=_;rw[KG]
 |(x,w)::m=>by
  rw[Ks];by_cases h:k=x
  .subst h;rw[z7 rfl,KG,KG];split<;>rfl
  .rw[z8 h,KG,Lk k q v m,KG];by_cases h2:q=x
   .subst h2;rw[z7 rfl,z7 rfl,z8 (λe=>h e.symm)]
   .rw[z8 h2,z8 h2]
def Eh (n mo:Int) (p:Int×Int) (w:Int) (m:List ((Int×Int)×Int)) (s:Int):List ((Int×Int)×Int):=if (G8 n p s).2<=mo then Mo m (G8 n p s) (XK m (G8 n p s)+w) else m
def Q7r (n mo:Int) (p:Int×Int) (w:Int) (m:List ((Int×Int)×Int)):List ((Int×Int)×Int):=Eh n mo p w (Eh n mo p w (Eh n mo p w m 0) 1) 2
theorem Q0l (n mo:Int) (p:Int×Int) (w:Int) (m:List ((Int×Int)×Int)) (s:Int) (q:Int×Int):XK (Eh n mo p w m s) q=XK m q+B8 n mo p w q s:=by
 unfold Eh B8;by_cases h:(G8 n p s).2<=mo
 .rw[z7 h,Lk];by_cases e:q=G8 n p s
  .rw[z7 e,z7 ⟨e.symm,by rw[e];exact h⟩,e]
  .rw[z8 e,z8 (λx=>e x.1.symm)];omega
 .rw[z8 h,z8 (λx=>h (by rw[x.1];exact x.2))];omega
theorem O3 {n mo:Nat}{m:List ((Int×Int)×Int)}{W:Int×Int->Int}(h:MapW n mo m W) (hW:∀ q,0<=W q) {p:Int×Int}{w s:Int}(hw:0<w) (hn:0<n) (hp:0<=p.1/\0<=p.2) (hs:0<=s):MapW n mo (Eh n mo p w m s) (λq=>W q+B8 n mo p w q s):=by
 unfold Eh;by_cases hc:(G8 n p s).2<=mo
 .rw[z7 hc];refine (h.add hW hw (k:=G8 n p s) ?_).congr λq=>?_
  .rw[JI];have b1:=Int.emod_nonneg (p.1+s) (show (n:Int)≠0 by omega);have b2:=Int.emod_lt_of_pos (p.1+s) (show (0:Int)<n by omega);refine⟨?_,?_,hc⟩
   .unfold G8;dsimp only;rw[Int.tmod_eq_emod_of_nonneg (by omega)];exact⟨b1,b2⟩
   .unfold G8;dsimp only;split<;>omega
  .unfold B8;by_cases e:q=G8 n p s
   .rw[z7 e,z7 ⟨e.symm,by rw[e];exact hc⟩]
   .rw[z8 e,z8 (λx=>e x.1.symm)]
 .rw[z8 hc];exact h.congr λq=>by
   unfold B8;rw[z8 (λx=>hc (by rw[x.1];exact x.2))];omega
theorem Q8v {n mo:Nat}{m:List ((Int×Int)×Int)}{W:Int×Int->Int}(h:MapW n mo m W) (hW:∀ q,0<=W q) {p:Int×Int}{w:Int}(hw:0<w) (hn:0<n) (hp:0<=p.1/\0<=p.2):MapW n mo (Q7r n mo p w m) (λq=>W q+(B8 n mo p w q 0+B8 n mo p w q 1+B8 n mo p w q 2)):=by have z:=λq s=>(VA (n:=n) (mo:=mo) (p:=p) (q:=q) (s:=s) (Int.le_of_lt hw)).1;have h1:=O3 h hW hw hn hp (s:=0) (by omega);have h2:=O3 h1 (λq=>by have:=hW q;have:=z q 0;omega) hw hn hp (s:=1) (by omega);have h3:=O3 h2 (λq=>by have:=hW q;have:=z q 0;have:=z q 1;omega) hw hn hp (s:=2) (by omega);exact h3.congr λq=>by omega
def WO:AL (Int×Int×(List (Int×Int×Bool))×Int):=(.cons (.k (.i .i64)) (.one (.ptr (.cons (.k (.i .i64)) (.cons (.k (.list (.pair (.i .i64) (.pair (.i .i64) .bo)))) (.one (.k (.i .i64))))))))
def Uy (d:Int×Int×(List (Int×Int×Bool))×Int):Prop:=1<=d.2.2.2/\d.2.2.2<=24
def Wu (d:Int×Int×(List (Int×Int×Bool))×Int):SV:=.val .bo (decide (d.1≠-1)&&!inI d.1 0 (2 ^ d.2.2.2.toNat-1))
def W9 (d:Int×Int×(List (Int×Int×Bool))×Int):List OB:=[]
def ZS:CSp:=V5 WO Uy Wu W9
def ZA (r:Int) (hk:Int) (cs:List (Int×Int×Bool)) (f:Int):Prop :=
 ((r != (-1:Int))=true->True)/\((r != (-1:Int))=true->1<=f/\f<=24/\[r].length<=1000000)/\(((r != (-1:Int))&&(!(!([r].any λn=>!inI n 0 (2 ^ f.toNat-1)))))=(decide (r≠-1)&&!inI r 0 (2 ^ f.toNat-1))/\(True))
def WG:Cx:=⟨[(3,(.i .i64))],[(102,ZN)],14,[],0,[],[],[],[],false,[],[],[],[]⟩
def Nh (r:Int) (hk:Int) (cs:List (Int×Int×Bool)) (f:Int):List (Nat×LoopAnn):=[]
theorem Np (d:Int×Int×(List (Int×Int×Bool))×Int):gwp (WG) (Nh d.1 d.2.1 d.2.2.1 d.2.2.2) Z23 0 (VF [.tmp 3] (Wu d) (W9 d)) (Qx 14 (AL.can WO d))=ZA d.1 d.2.1 d.2.2.1 d.2.2.2:=by kernel_rfl
abbrev NC:Prop:=OkC Tryz.prog 112 ZS
theorem Nr (h:∀ (r:Int) (hk:Int) (cs:List (Int×Int×Bool)) (f:Int),(1<=f/\f<=24)->ZA r hk cs f):OkC Tryz.prog 112 ZS :=
 Z5 I0 mixed (C:=WG) (V:=λ(d:Int×Int×(List (Int×Int×Bool))×Int)=>ZA d.1 d.2.1 d.2.2.1 d.2.2.2) ⟨(.cons WD .nil),XsOk.nil,ItsOk.nil,YlOk.nil,IysOk.nil,XfOk.nil⟩ (Np) λd hp=>h d.1 d.2.1 d.2.2.1 d.2.2.2 hp
theorem WC:NC:=Nr λr hk cs f h=>by
 unfold ZA;(try delta lI gD sT I64 ND pj8 pj4);refine⟨λ_=>trivial,λ_=>⟨h.1,h.2,by simp⟩,?_,trivial⟩;simp only[List.any_cons,List.any_nil,xY,Bool.not_not];congr 1;by_cases e:r=-1
 .subst e;rfl
 .simp[e]
def Gb:AL (Int):=(.one (.k (.i .i64)))
def T2 (d:Int):Prop:=True
def Ma (d:Int):SV:=.val (.i .i64) (if d=1 then 0 else 1)
def Mb (d:Int):List OB:=[]
def Wy:CSp:=V5 Gb T2 Ma Mb
def Y9 (s:Int):Prop :=
 ((s==(1:Int))=true ->
  ((0:Int)=(if s=1 then 0 else 1)/\(True))) /\
 ((s==(1:Int))=false ->
  ((1:Int)=(if s=1 then 0 else 1)/\(True)))
def Gc:Cx:=⟨[],[],5,[],0,[],[],[],[],false,[],[],[],[]⟩
def TI (s:Int):List (Nat×LoopAnn):=[]
theorem Tx (d:Int):gwp (Gc) (TI d) c77 0 (VF [.tmp 2] (Ma d) (Mb d)) (Qx 5 (AL.can Gb d))=Y9 d:=by kernel_rfl
abbrev Tj:Prop:=OkC Tryz.prog 77 Wy
theorem TF (h:∀ (s:Int),(True)->Y9 s):OkC Tryz.prog 77 Wy :=
 Z5 Q6e mixed (C:=Gc) (V:=λ(d:Int)=>Y9 d) ⟨.nil,XsOk.nil,ItsOk.nil,YlOk.nil,IysOk.nil,XfOk.nil⟩ (Tx) λd hp=>h d hp
theorem Vr:Tj:=TF λs _=>by
 unfold Y9;(try delta lI gD sT I64 ND pj8 pj4);refine⟨λc=>⟨?_,trivial⟩,λc=>⟨?_,trivial⟩⟩
 .rw[z7 (eq_of_beq c)]
 .rw[z8 (λe=>by rw[e] at c;cases c)]
def W3:AL ((Int×(List (Int×Int×Bool))×Int×List Int)×Int×Int):=(.cons (.agg (.cons (.k (.i .i64)) (.cons (.k (.list (.pair (.i .i64) (.pair (.i .i64) .bo)))) (.cons (.k (.i .i64)) (.one (.k (.list (.i .i64)))))))) (.cons (.k (.i .i64)) (.one (.k (.i .i64)))))
def Vs (d:(Int×(List (Int×Int×Bool))×Int×List Int)×Int×Int):Prop:=1<=d.1.2.2.1/\d.1.2.2.1<=24/\0<=d.2.1/\d.2.1<d.1.2.2.2.length/\0<=d.2.2/\d.2.2<d.1.2.1.length/\∀ c∈d.1.2.1,QT d.1.2.2.1 c=true
def Xv (d:(Int×(List (Int×Int×Bool))×Int×List Int)×Int×Int):SV:=.val .bo (wvB d.1.2.2.1 d.1.2.1 d.1.2.2.2 d.2.1.toNat d.2.2)
def Xw (d:(Int×(List (Int×Int×Bool))×Int×List Int)×Int×Int):List OB:=[]
def Zj:CSp:=V5 W3 Vs Xv Xw
def Z8 (hk:Int) (cs:List (Int×Int×Bool)) (f:Int) (cl:List Int) (pk:Int) (at_:Int):Prop :=
 (0<=pk)/\(pk<(List.length cl))/\(((gD cl pk 0)==(-1:Int))=false->0<=pk)/\(((gD cl pk 0)==(-1:Int))=false->pk<(List.length cl))/\(((gD cl pk 0)==(-1:Int))=false->1<=f/\f<=24/\0<=at_/\at_<cs.length/\∀ c∈cs,QT f c=true)/\((((gD cl pk 0)==(-1:Int))||((gD cl pk 0)==(Yh f (cs.getD at_.toNat YB))))=(wvB f cs cl pk.toNat at_)/\(True))
def XR:Cx:=⟨[],[(104,JK)],25,[],0,[],[],[],[],false,[],[],[],[]⟩
def VH (hk:Int) (cs:List (Int×Int×Bool)) (f:Int) (cl:List Int) (pk:Int) (at_:Int):List (Nat×LoopAnn):=[]
theorem V_ (d:(Int×(List (Int×Int×Bool))×Int×List Int)×Int×Int):gwp (XR) (VH d.1.1 d.1.2.1 d.1.2.2.1 d.1.2.2.2 d.2.1 d.2.2) Z22 0 (VF [.tmp 6] (Xv d) (Xw d)) (Qx 25 (AL.can W3 d))=Z8 d.1.1 d.1.2.1 d.1.2.2.1 d.1.2.2.2 d.2.1 d.2.2:=by kernel_rfl
abbrev U5:Prop:=OkC Tryz.prog 116 Zj
theorem VO (h:∀ (hk:Int) (cs:List (Int×Int×Bool)) (f:Int) (cl:List Int) (pk:Int) (at_:Int),(1<=f/\f<=24/\0<=pk/\pk<cl.length/\0<=at_/\at_<cs.length/\∀ c∈cs,QT f c=true)->Z8 hk cs f cl pk at_):OkC Tryz.prog 116 Zj :=
 Z5 FO mixed (C:=XR) (V:=λ(d:(Int×(List (Int×Int×Bool))×Int×List Int)×Int×Int)=>Z8 d.1.1 d.1.2.1 d.1.2.2.1 d.1.2.2.2 d.2.1 d.2.2) ⟨(.cons KS .nil),XsOk.nil,ItsOk.nil,YlOk.nil,IysOk.nil,XfOk.nil⟩ (V_) λd hp=>h d.1.1 d.1.2.1 d.1.2.2.1 d.1.2.2.2 d.2.1 d.2.2 hp
theorem W4:U5:=VO λhk cs f cl pk at_ h=>by obtain⟨h1,h2,h3,h4,h5,h6,h7⟩:=h;unfold Z8;(try delta lI gD sT I64 ND pj8 pj4);exact⟨h3,h4,λ_=>h3,λ_=>h4,λ_=>⟨h1,h2,h5,h6,h7⟩,(by and_intros<;>first|rfl|trivial|simp)⟩
def W6:AL ((Int×(List (Int×Int×Bool))×Int×List Int)×(Int×Int)×Int×Int):=(.cons (.agg (.cons (.k (.i .i64)) (.cons (.k (.list (.pair (.i .i64) (.pair (.i .i64) .bo)))) (.cons (.k (.i .i64)) (.one (.k (.list (.i .i64)))))))) (.cons (.agg (.cons (.k (.i .i64)) (.one (.k (.i .i64))))) (.cons (.k (.i .i64)) (.one (.k (.i .i64))))))
def UO (m:List ((Int×Int)×Int)) (a:(Int×(List (Int×Int×Bool))×Int×List Int)×(Int×Int)×Int×Int):Prop:=0<=a.2.1.1/\a.2.1.1<a.1.2.1.length/\a.1.2.1.length<=60/\0<=a.2.1.2/\a.2.1.2<=6/\0<=a.2.2.2/\a.2.2.2<=6/\0<=a.2.2.1/\a.2.2.1<=4000000000000000/\∀ q,0<=XK m q/\XK m q<=4000000000000000
def Wq (m:List ((Int×Int)×Int)) (a:(Int×(List (Int×Int×Bool))×Int×List Int)×(Int×Int)×Int×Int):SV:=.tup []
def XO (m:List ((Int×Int)×Int)) (a:(Int×(List (Int×Int×Bool))×Int×List Int)×(Int×Int)×Int×Int) (m2:List ((Int×Int)×Int)):Prop:=m2=Q7r a.1.2.1.length a.2.2.2 (a.2.1.1,a.2.1.2) a.2.2.1 m
def X2:XSp:=OV NF 1 (.pair (.i .i64) (.i .i64)) (.i .i64) (Z4u W6 UO Wq XO)
def ZC (m:List ((Int×Int)×Int)) (hk:Int) (cs:List (Int×Int×Bool)) (f:Int) (cl:List Int) (sa:Int) (sf:Int) (wy:Int) (mo:Int):Prop:=∀ vals:List Value,
 ∃ (e3:Unit) (d30:(List ((Int×Int)×Int))×Int),((True/\wy=wy/\mo=mo/\True/\True/\(0:Int)=d30.2/\True)/\((m=d30.1)/\(hk=hk/\cs=cs/\f=f/\cl=cl/\(([]:List SV)=[]))/\(sa=sa/\sf=sf/\(([]:List SV)=[]))/\(vals=vals/\(True/\(([]:List SV)=[])))/\True)) /\
 LoopP (λ(d3:(List ((Int×Int)×Int))×Int) (q3:((List ((Int×Int)×Int))×Int)->Prop) =>
  ((decide (d3.2<(3:Int)))=true ->
   (cs≠[]/\cs.length<=1000/\-1000000<=sa/\sa<=1000000/\-1000000<=d3.2/\d3.2<=1000000)/\(True)/\(I64 (sf+(if d3.2=1 then 0 else 1)))/\((True/\wy=wy/\mo=mo/\True/\True/\True/\d3.2=d3.2/\((Int.tmod (sa+d3.2) cs.length)=(Int.tmod (sa+d3.2) cs.length)/\(sf+(if d3.2=1 then 0 else 1))=(sf+(if d3.2=1 then 0 else 1))/\(([]:List SV)=[]))/\True)/\((d3.1=d3.1)/\(hk=hk/\cs=cs/\f=f/\cl=cl/\(([]:List SV)=[]))/\(sa=sa/\sf=sf/\(([]:List SV)=[]))/\((0:Int)=(0:Int)/\(0:Int)=(0:Int)/\(([]:List SV)=[]))/\(vals=vals/\(True/\(([]:List SV)=[])))/\True))/\((cs≠[]/\cs.length<=1000/\-1000000<=sa/\sa<=1000000/\-1000000<=d3.2/\d3.2<=1000000)/\(True)/\(I64 (sf+(if d3.2=1 then 0 else 1)))/\((True/\wy=wy/\mo=mo/\True/\True/\True/\d3.2=d3.2/\((Int.tmod (sa+d3.2) cs.length)=(Int.tmod (sa+d3.2) cs.length)/\(sf+(if d3.2=1 then 0 else 1))=(sf+(if d3.2=1 then 0 else 1))/\(([]:List SV)=[]))/\True)/\((d3.1=d3.1)/\(hk=hk/\cs=cs/\f=f/\cl=cl/\(([]:List SV)=[]))/\(sa=sa/\sf=sf/\(([]:List SV)=[]))/\((0:Int)=(0:Int)/\(0:Int)=(0:Int)/\(([]:List SV)=[]))/\(vals=vals/\(True/\(([]:List SV)=[])))/\True)))/\((cs≠[]/\cs.length<=1000/\-1000000<=sa/\sa<=1000000/\-1000000<=d3.2/\d3.2<=1000000)/\(True)/\(I64 (sf+(if d3.2=1 then 0 else 1)))/\((True/\wy=wy/\mo=mo/\True/\True/\True/\d3.2=d3.2/\((Int.tmod (sa+d3.2) cs.length)=(Int.tmod (sa+d3.2) cs.length)/\(sf+(if d3.2=1 then 0 else 1))=(sf+(if d3.2=1 then 0 else 1))/\(([]:List SV)=[]))/\True)/\((d3.1=d3.1)/\(hk=hk/\cs=cs/\f=f/\cl=cl/\(([]:List SV)=[]))/\(sa=sa/\sf=sf/\(([]:List SV)=[]))/\((0:Int)=(0:Int)/\(0:Int)=(0:Int)/\(([]:List SV)=[]))/\(vals=vals/\(True/\(([]:List SV)=[])))/\True)))/\((decide ((sf+(if d3.2=1 then 0 else 1))<=mo))=true ->
    (I64 ((gq.aget (.pair (.i .i64) (.i .i64)) d3.1 ((Int.tmod (sa+d3.2) cs.length),(sf+(if d3.2=1 then 0 else 1))) 0)+wy))/\∀ n4:Int,
     n4=n4 /\
     (I64 (d3.2+(1:Int)))/\(∃ d5:(List ((Int×Int)×Int))×Int,((True/\wy=wy/\mo=mo/\True/\True/\(d3.2+(1:Int))=d5.2/\True)/\(((TB (.pair (.i .i64) (.i .i64)) (TB (.pair (.i .i64) (.i .i64)) d3.1 ((Int.tmod (sa+d3.2) cs.length),(sf+(if d3.2=1 then 0 else 1))) (gq.aget (.pair (.i .i64) (.i .i64)) d3.1 ((Int.tmod (sa+d3.2) cs.length),(sf+(if d3.2=1 then 0 else 1))) 0)) ((Int.tmod (sa+d3.2) cs.length),(sf+(if d3.2=1 then 0 else 1))) ((gq.aget (.pair (.i .i64) (.i .i64)) d3.1 ((Int.tmod (sa+d3.2) cs.length),(sf+(if d3.2=1 then 0 else 1))) 0)+wy))=d5.1)/\(hk=hk/\cs=cs/\f=f/\cl=cl/\(([]:List SV)=[]))/\(sa=sa/\sf=sf/\(([]:List SV)=[]))/\(vals=vals/\(True/\(([]:List SV)=[])))/\True))/\q3 d5)) /\
   ((decide ((sf+(if d3.2=1 then 0 else 1))<=mo))=false ->
    (I64 (d3.2+(1:Int)))/\(∃ d6:(List ((Int×Int)×Int))×Int,((True/\wy=wy/\mo=mo/\True/\True/\(d3.2+(1:Int))=d6.2/\True)/\((d3.1=d6.1)/\(hk=hk/\cs=cs/\f=f/\cl=cl/\(([]:List SV)=[]))/\(sa=sa/\sf=sf/\(([]:List SV)=[]))/\(vals=vals/\(True/\(([]:List SV)=[])))/\True))/\q3 d6))) /\
  ((decide (d3.2<(3:Int)))=false ->
   (vals=vals/\(True/\(([]:List SV)=[]))/\((([]:List SV)=[]))/\(d3.1=Q7r cs.length mo (sa,sf) wy m)))) d30
def WQ:Cx:=⟨[],[(78,Z9),(77,Wy)],39,[],0,[],[],[],[1,3,4,5,7,11,12,26],false,[],[],[],[]⟩
def WN (m:List ((Int×Int)×Int)) (hk:Int) (cs:List (Int×Int×Bool)) (f:Int) (cl:List Int) (sa:Int) (sf:Int) (wy:Int) (mo:Int) (vals:List Value):List (Nat×LoopAnn):=[(0,⟨Unit,(List ((Int×Int)×Int))×Int,[1,3,4,5,7,12],λe x=>[.map 0,.val (.i .i64) wy,.val (.i .i64) mo,.box 5 0,.box 7 0,.val (.i .i64) x.2],λe x=>[(0,.slot 1,.map (.pair (.i .i64) (.i .i64)) (.i .i64) x.1),(5,.slot 5,.cells [.val (.i .i64) hk,.val (.list (.pair (.i .i64) (.pair (.i .i64) .bo))) cs,.val (.i .i64) f,.val (.list (.i .i64)) cl] (some 134)),(7,.slot 7,.cells [.val (.i .i64) sa,.val (.i .i64) sf] (some 145)),(4000000,.key 4000000,.stk [.map 0] vals)]⟩)]
theorem Nb (m:List ((Int×Int)×Int)) (a:(Int×(List (Int×Int×Bool))×Int×List Int)×(Int×Int)×Int×Int):(∀ vals,gwp WQ (WN m a.1.1 a.1.2.1 a.1.2.2.1 a.1.2.2.2 a.2.1.1 a.2.1.2 a.2.2.1 a.2.2.2 vals) Z1o 0 (Q5r vals [] (Wq m a) (.pair (.i .i64) (.i .i64)) (.i .i64) (XO m a)) (Dl 39 1 (.pair (.i .i64) (.i .i64)) (.i .i64) m vals (AL.can W6 a)))=ZC m a.1.1 a.1.2.1 a.1.2.2.1 a.1.2.2.2 a.2.1.1 a.2.1.2 a.2.2.1 a.2.2.2:=by kernel_rfl
abbrev Nw:Prop:=XOk Tryz.prog 145 X2
theorem Nk (h:∀ (m:List ((Int×Int)×Int)) (hk:Int) (cs:List (Int×Int×Bool)) (f:Int) (cl:List Int) (sa:Int) (sf:Int) (wy:Int) (mo:Int),(0<=sa/\sa<cs.length/\cs.length<=60/\0<=sf/\sf<=6/\0<=mo/\mo<=6/\0<=wy/\wy<=4000000000000000/\∀ q,0<=XK m q/\XK m q<=4000000000000000)->ZC m hk cs f cl sa sf wy mo):XOk Tryz.prog 145 X2 :=
 Q0h Ii mixed Kv rfl (C:=WQ) ⟨(.cons Jr (.cons Vr .nil)),XsOk.nil,ItsOk.nil,YlOk.nil,IysOk.nil,XfOk.nil⟩ (L:=λm (a:(Int×(List (Int×Int×Bool))×Int×List Int)×(Int×Int)×Int×Int) vals=>WN m a.1.1 a.1.2.1 a.1.2.2.1 a.1.2.2.2 a.2.1.1 a.2.1.2 a.2.2.1 a.2.2.2 vals) (V:=λm (a:(Int×(List (Int×Int×Bool))×Int×List Int)×(Int×Int)×Int×Int)=>ZC m a.1.1 a.1.2.1 a.1.2.2.1 a.1.2.2.2 a.2.1.1 a.2.1.2 a.2.2.1 a.2.2.2) Nb λm a hp=>h m a.1.1 a.1.2.1 a.1.2.2.1 a.1.2.2.2 a.2.1.1 a.2.1.2 a.2.2.1 a.2.2.2 hp
theorem Ux:Nw:=Nk λm hk cs f cl sa sf wy mo h=>by
 obtain⟨h1,h2,h3,h4,h5,h6,h7,h8,h9,bT⟩:=h;unfold ZC;(try delta lI gD sT I64 ND pj8 pj4);intro vals;have az:cs≠[]:=λe=>by rw[e] at h2;simp at h2;omega
 refine⟨(),(m,0),(by and_intros<;>first|rfl|trivial),?_⟩
 let P:Nat->List ((Int×Int)×Int):=λk=>match k with
  |0=>m
  |1=>Eh cs.length mo (sa,sf) wy m 0
  |2=>Eh cs.length mo (sa,sf) wy (Eh cs.length mo (sa,sf) wy m 0) 1
  |_=>Q7r cs.length mo (sa,sf) wy m
 have hP:∀ k:Nat,k<3->P (k+1)=Eh cs.length mo (sa,sf) wy (P k) k:=λk hk=>by
  match k,hk with
  |0,_=>rfl
  |1,_=>rfl
  |2,_=>rfl
 have hb:∀ k:Nat,k<=3->∀ q,0<=XK (P k) q/\XK (P k) q<=4000000000000000+k*4000000000000000:=λk=>by
  induction k with
  |zero=>intro _ q;have:=bT q;exact⟨this.1,by show XK m q<=_;omega⟩
  |succ k ih =>intro hk q;rw[hP k (by omega),Q0l];have a1:=ih (by omega) q;have a2:=VA (n:=cs.length) (mo:=mo) (p:=(sa,sf)) (q:=q) (s:=(k:Int)) h8;omega
 refine LoopP.count2 3 (λk d=>d=P k) rfl ?_;intro k d nU hd q hq;subst hd;dsimp only;refine⟨λg=>?_,λg=>?_⟩
 .have g:k<3:=by have:=zP g;omega
  have cO:=λx'=>hq x' g;have hs:I64 (sf+(if (k:Int)=1 then 0 else 1)):=by (try delta I64);simp only[Qn];split<;>omega
  have mI:cs≠[]/\cs.length<=1000/\-1000000<=sa/\sa<=1000000/\-1000000<=(k:Int)/\(k:Int)<=1000000:=⟨az,by omega,by omega,by omega,by omega,by omega⟩;refine⟨mI,trivial,hs,by and_intros<;>first|rfl|trivial,⟨mI,trivial,hs,by and_intros<;>first|rfl|trivial⟩,⟨mI,trivial,hs,by and_intros<;>first|rfl|trivial⟩,λc=>?_,λc=>?_⟩
  .have c:=zP c;have vz:=hb k (by omega) (G8 cs.length (sa,sf) k);have e1:gq.aget (.pair (.i .i64) (.i .i64)) (P k) ((Int.tmod (sa+(k:Int)) cs.length),(sf+(if (k:Int)=1 then 0 else 1))) (0:Int)=XK (P k) (G8 cs.length (sa,sf) k):=rfl;refine⟨?_,λn4=>⟨rfl,?_,?_⟩⟩
   .rw[e1];simp only[Qn];omega
   .simp only[Qn];omega
   .refine⟨(P (k+1),(k:Int)+1),?_,cO _ rfl⟩;have e2:P (k+1)=Mo (Mo (P k) (G8 cs.length (sa,sf) k) (XK (P k) (G8 cs.length (sa,sf) k))) (G8 cs.length (sa,sf) k) (XK (P k) (G8 cs.length (sa,sf) k)+wy):=by
     rw[La,hP k g];unfold Eh;rw[z7 (show (G8 cs.length (sa,sf) k).2<=mo from c)]
    refine⟨by and_intros<;>first|rfl|trivial,?_⟩;refine⟨e2.symm,?_⟩;and_intros<;>first|rfl|trivial
  .have c:=x7 c;refine⟨by simp only[Qn];omega,(P (k+1),(k:Int)+1),⟨by and_intros<;>first|rfl|trivial,?_⟩,cO _ rfl⟩;refine⟨?_,by and_intros<;>first|rfl|trivial⟩;show P k=P (k+1);rw[hP k g];unfold Eh;rw[z8 (show ¬ (G8 cs.length (sa,sf) k).2<=mo from c)]
 .have g:k=3:=by have:=x7 g;omega
  subst g;and_intros<;>first|rfl|trivial
def NL {α:Type}(l:List α) (n:Nat):List α:=(List.replicate n l).flatten
theorem DV {α:Type}(l:List α) (a b:Nat):NL l (a+b)=NL l a++NL l b:=by simp only[NL];rw[<-List.replicate_append_replicate,List.flatten_append]
theorem Kl {α:Type}(l:List α) (n:Nat):(NL l n).length=l.length*n:=by simp[NL,List.length_flatten,x_]
theorem Q1l {α:Type}(x:α) (n:Nat):NL [x] n=List.replicate n x:=by
 induction n with
 |zero=>rfl
 |succ n ih=>rw[DV,ih,List.replicate_succ'];rfl
theorem Ir {α:Type}{l:List α}{n j c:Nat}(hj:j<=n) (hc:l.length*j+c<=l.length*n):(NL l n).take (l.length*j+c)=(NL l n).take (l.length*j)++(NL l n).take c:=by
 obtain⟨k,rfl⟩:=Nat.exists_eq_add_of_le hj;rw[wS] at hc;have e:NL l (j+k)=NL l k++NL l j:=by rw[xP,DV]
 rw[List.take_add];congr 1;rw[DV l j k,List.drop_left' (Kl l j),<-DV,e,List.take_append_of_le_length (by rw[Kl];omega)]
def Q8q {α:Type}(l:List α) (n:Nat) (xs:List α) (m:Nat):Prop:=xs.length=l.length*n/\m<=l.length*n/\xs.take m=(NL l n).take m/\(m=l.length*n\/(0<m/\∃ j,m=l.length*j))
theorem O6 {α:Type}(l:List α) (n:Nat) (d:α):Q8q l n (List.take (l.length*n) l++List.drop l.length (List.replicate (l.length*n) d)) (Nat.min l.length (l.length*n)):=by
 rcases Nat.eq_zero_or_pos n with rfl|hn
 .exact⟨by simp,by simp,by simp,.inl (by simp)⟩
 have h1:l.length<=l.length*n:=Nat.le_mul_of_pos_right _ hn;have e:Nat.min l.length (l.length*n)=l.length:=xL h1;rw[e];refine⟨by simp;omega,h1,?_,?_⟩
 .obtain⟨k,rfl⟩:=Nat.exists_eq_add_of_le hn;rw[zx h1,List.take_left,Nat.succ_eq_add_one,DV,List.take_append_of_le_length (by rw[Kl];omega)];simp[NL]
 .rcases Nat.eq_zero_or_pos l.length with h0|h0
  .left;rw[h0];simp
  .exact .inr ⟨h0,1,by omega⟩
theorem Iv {α:Type}{l:List α}{n:Nat}{xs:List α}{m:Nat}(h:Q8q l n xs m) (hm:m<xs.length) :
  Q8q l n (List.take m xs++(List.take (xs.length-m) (List.take m xs)++List.drop (m+Nat.min (List.take m xs).length (xs.length-m)) xs)) (m+Nat.min (List.take m xs).length (xs.length-m))/\0<Nat.min (List.take m xs).length (xs.length-m):=by
 obtain⟨h1,h2,h3,h4⟩:=h;have hl:(List.take m xs).length=m:=by rw[xE];omega
 rw[hl];rcases h4 with h4|⟨h4,j,h5⟩
 .omega
 have hj:j<=n:=Nat.le_of_mul_le_mul_left (by omega:l.length*j<=l.length*n) (Nat.pos_of_ne_zero λh=>by rw[h] at h1;omega);have hc:Nat.min m (xs.length-m)=min m (xs.length-m):=rfl;generalize dB:Nat.min m (xs.length-m)=c;rw[hc] at dB;have c1:c<=m:=by omega
 have c2:m+c<=xs.length:=by omega
 have c3:0<c:=by omega
 refine⟨⟨?_,by omega,?_,?_⟩,c3⟩
 .simp only[zI,xE,xZ];omega
 .have e1:List.take (xs.length-m) (List.take m xs)=List.take c ((NL l n).take m):=by
   rw[h3,List.take_take,List.take_take];congr 1;omega
  rw[e1,h3,<-zZ,List.take_left']
  .rw[h5,Ir hj (by omega),List.take_take,xL (by omega)]
  .simp only[zI,xE,Kl];omega
 .rcases zl (xs.length-m) m with h6|h6
  .left;omega
  .right;exact⟨by omega,j+j,by rw[wS];omega⟩
theorem Q16 {α:Type}{l:List α}{n:Nat}{xs:List α}{m:Nat}(h:Q8q l n xs m) (hm:¬ m<xs.length):xs=NL l n:=by
 obtain⟨h1,h2,h3,_⟩:=h;have:m=l.length*n:=by omega
 rw[zx (by omega),zx (by rw[Kl];omega)] at h3;exact h3
def Zl (l:List Int):Int:=l.tail.foldl B9 (l.getD 0 0)
def nxC (n:Nat) (at_ s:Int):Int:=Int.tmod (at_+s) n
def ftC (s:Int):Int:=if s=1 then 0 else 1
def pvC (n:Nat) (w:Bool) (now:List Int) (a:Nat):Nat->Int
 |0=>1048576
 |t+1=>if w=true then B9 (pvC n w now a t) (ftC t+now.getD (nxC n a t).toNat 0) else pvC n w now a t
def Q10 (n:Nat) (wv:Int->Bool) (now:List Int):List Int:=(List.range n).map λ(a:Nat)=>pvC n (wv (a:Int)) now a 3
def QW (n:Nat) (wv:Nat->Int->Bool) (m:Nat):Nat->List Int
 |0=>List.replicate n 0
 |k+1=>Q10 n (wv (m-1-k)) (QW n wv m k)
def Qg (hk:Int) (cs:List V8) (cl:List Int):List (List Int):=((List.range (cl.length+1)).map λk=>QW cs.length (λk=>wvB hk cs cl k) cl.length k).reverse
def SO (n:Nat) (now nxt:List Int) (at_:Int):Int :=
 if ftC 0+nxt.getD (nxC n at_ 0).toNat 0=now.getD at_.toNat 0 then 0 else if ftC 1+nxt.getD (nxC n at_ 1).toNat 0=now.getD at_.toNat 0 then 1 else 2
def K6 (n:Nat) (wv:Nat->Int->Bool) (m:Nat):Nat->Int->List Int
 |0,_=>[]
 |k+1,at_=>SO n (QW n wv m (k+1)) (QW n wv m k) at_::K6 n wv m k (nxC n at_ (SO n (QW n wv m (k+1)) (QW n wv m k) at_))
def Su (hk:Int) (cs:List V8) (cl:List Int):Int:=Zl (QW cs.length (λk=>wvB hk cs cl k) cl.length cl.length)
def C4 (hk:Int) (cs:List V8) (cl:List Int):Int:=GX (QW cs.length (λk=>wvB hk cs cl k) cl.length cl.length) (λy=>decide (y=Su hk cs cl))
def V0 (hk:Int) (cs:List V8) (cl:List Int):Int:=if Su hk cs cl>=1048576 then 7 else 0
def G0 (hk:Int) (cs:List V8) (cl:List Int):Int:=if Su hk cs cl>=1048576 then 0 else Su hk cs cl
def Y7 (hk:Int) (cs:List V8) (cl:List Int):Int:=if Su hk cs cl>=1048576 then 0 else C4 hk cs cl
def Ui (hk:Int) (cs:List V8) (cl:List Int):List Int:=if Su hk cs cl>=1048576 then [] else K6 cs.length (λk=>wvB hk cs cl k) cl.length cl.length (C4 hk cs cl)
theorem UH (a b:Int):B9 a b<=a/\B9 a b<=b/\(B9 a b=a\/B9 a b=b):=by unfold B9;split<;>omega
theorem LW (s:Int):0<=ftC s/\ftC s<=1:=by unfold ftC;split<;>omega
theorem Q4o (n:Nat) (w:Bool) (now:List Int) (a:Nat):∀ t,pvC n w now a t<=1048576
 |0=>Int.le_refl _
 |t+1=>by
  have:=Q4o n w now a t;unfold pvC;split
  .have:=(UH (pvC n w now a t) (ftC t+now.getD (nxC n a t).toNat 0)).1;omega
  .exact this
theorem Q35 {n:Nat}{w:Bool}{now:List Int}{a:Nat}(h:∀ i,0<=now.getD i 0):∀ t,0<=pvC n w now a t
 |0=>by show (0:Int)<=1048576;decide
 |t+1=>by
  have h1:=Q35 (n:=n) (w:=w) (a:=a) h t;unfold pvC;split
  .have h2:=(UH (pvC n w now a t) (ftC t+now.getD (nxC n a t).toNat 0)).2.2;have h3:=h (nxC n a t).toNat;have:=LW t;omega
  .exact h1
theorem AW (n:Nat) (wv:Int->Bool) (now:List Int):(Q10 n wv now).length=n:=by simp[Q10]
theorem Sx {n:Nat}(wv:Int->Bool) (now:List Int) {a:Nat}(h:a<n):(Q10 n wv now).getD a 0=pvC n (wv a) now a 3:=by rw[Qh (by rw[AW];exact h)];simp[Q10]
theorem Vm (n:Nat) (wv:Nat->Int->Bool) (m:Nat):∀ k,(QW n wv m k).length=n
 |0=>by simp[QW]
 |k+1=>AW ..
theorem S4 (n:Nat) (wv:Nat->Int->Bool) (m:Nat):∀ k i,0<=(QW n wv m k).getD i 0/\(QW n wv m k).getD i 0<=1048576
 |0,i=>by
  by_cases h:i<n
  .rw[Qh (by simpa [QW] using h)];simp[QW]
  .rw[zd,zk (by simpa [QW] using h)];decide
 |k+1,i=>by
  by_cases h:i<n
  .show 0<=(Q10 n (wv (m-1-k)) (QW n wv m k)).getD i 0/\(Q10 n (wv (m-1-k)) (QW n wv m k)).getD i 0<=1048576;rw[Sx _ _ h];exact⟨Q35 (λi=>(S4 n wv m k i).1) 3,Q4o ..⟩
  .rw[zd,zk (by rw[Vm];omega)];decide
def Hq (n:Nat) (wv:Int->Bool) (now:List Int) (i t:Nat):List Int:=(List.range n).map λ(a:Nat)=>if a<i then pvC n (wv (a:Int)) now a 3 else if a=i then pvC n (wv (a:Int)) now a t else 1048576
theorem S8 (n:Nat) (wv:Int->Bool) (now:List Int) (i t:Nat):(Hq n wv now i t).length=n:=by simp[Hq]
theorem Q1g {n:Nat}(wv:Int->Bool) (now:List Int) {i:Nat}(t:Nat) (h:i<n):(Hq n wv now i t).getD i 0=pvC n (wv i) now i t:=by rw[Qh (by rw[S8];exact h)];simp[Hq]
theorem OI (n:Nat) (wv:Int->Bool) (now:List Int):Hq n wv now 0 0=List.replicate n 1048576:=by refine List.ext_getElem (by simp[Hq]) λa h1 h2=>?_;simp[Hq,pvC]
theorem Io (n:Nat) (wv:Int->Bool) (now:List Int) (i:Nat):Hq n wv now i 3=Hq n wv now (i+1) 0:=by
 refine xc λa _=>?_;by_cases h:a<i
 .rw[z7 h,z7 (by omega)]
 .by_cases h2:a=i
  .subst h2;rw[z8 h,z7 rfl,z7 (by omega)]
  .rw[z8 h,z8 h2,z8 (by omega)];split<;>rfl
theorem Q1b (n:Nat) (wv:Int->Bool) (now:List Int):Hq n wv now n 0=Q10 n wv now:=by refine xc λa ha=>?_;rw[z7 (zD.1 ha)]
theorem Q1q {n:Nat}(wv:Int->Bool) (now:List Int) (i t:Nat):(Hq n wv now i t).set i (pvC n (wv i) now i (t+1))=Hq n wv now i (t+1):=by
 refine List.ext_getElem (by simp[Hq]) λa h1 h2=>?_;rw[List.getElem_set];simp only[Hq,xS,List.getElem_range];by_cases h:i=a
 .subst h;rw[z7 rfl,z8 (by omega),z7 rfl]
 .rw[z8 h];by_cases h3:a<i
  .rw[z7 h3,z7 h3]
  .rw[z8 h3,z8 h3,z8 (by omega),z8 (by omega)]
theorem I7 {n:Nat}(wv:Int->Bool) (now:List Int) {i:Nat}(t:Nat) (h:wv i=false):Hq n wv now i t=Hq n wv now i (t+1):=by
 refine xc λa ha=>?_;by_cases h2:a=i
 .subst h2;simp only[wL,if_false,zB];rw[show pvC n (wv (a:Int)) now a (t+1)=if wv (a:Int)=true then B9 (pvC n (wv (a:Int)) now a t) (ftC t+now.getD (nxC n a t).toNat 0) else pvC n (wv (a:Int)) now a t from rfl,h];rfl
 .simp only[h2,if_false]
theorem Ro {hk:Int}{cs:List V8}{cl:List Int}{p:Nat}(h:p<=cl.length):(Qg hk cs cl).getD p []=QW cs.length (λk=>wvB hk cs cl k) cl.length (cl.length-p):=by rw[Qh (by simp[Qg];omega)];simp only[Qg];rw[List.getElem_reverse];simp
theorem Fi (hk:Int) (cs:List V8) (cl:List Int):(Qg hk cs cl).length=cl.length+1:=by simp[Qg]
theorem Q1k {n:Nat}{w:Bool}{now:List Int}{a:Nat}(h:pvC n w now a 3<1048576):w=true/\(pvC n w now a 3=ftC 0+now.getD (nxC n a 0).toNat 0\/pvC n w now a 3=ftC 1+now.getD (nxC n a 1).toNat 0\/pvC n w now a 3=ftC 2+now.getD (nxC n a 2).toNat 0):=by
 cases w with
 |false=>simp[pvC] at h
 |true =>refine⟨rfl,?_⟩;simp only[pvC,zB] at h |-;have h1:=(UH 1048576 (ftC ((0:Nat):Int)+now.getD (nxC n a ((0:Nat):Int)).toNat 0)).2.2;have h2:=(UH (B9 1048576 (ftC ((0:Nat):Int)+now.getD (nxC n a ((0:Nat):Int)).toNat 0)) (ftC ((1:Nat):Int)+now.getD (nxC n a ((1:Nat):Int)).toNat 0)).2.2;have h3:=(UH (B9 (B9 1048576 (ftC ((0:Nat):Int)+now.getD (nxC n a ((0:Nat):Int)).toNat 0)) (ftC ((1:Nat):Int)+now.getD (nxC n a ((1:Nat):Int)).toNat 0)) (ftC ((2:Nat):Int)+now.getD (nxC n a ((2:Nat):Int)).toNat 0)).2.2;simp only[Int.natCast_zero,Int.natCast_one,show ((2:Nat):Int)=2 from rfl] at h1 h2 h3 h |-;omega
theorem Q3j {n:Nat}{w:Bool}{now:List Int}{a:Nat}(hw:w=true):pvC n w now a 3<=ftC 0+now.getD (nxC n a 0).toNat 0/\pvC n w now a 3<=ftC 1+now.getD (nxC n a 1).toNat 0/\pvC n w now a 3<=ftC 2+now.getD (nxC n a 2).toNat 0:=by subst hw;simp only[pvC,zB];have h1:=UH 1048576 (ftC ((0:Nat):Int)+now.getD (nxC n a ((0:Nat):Int)).toNat 0);have h2:=UH (B9 1048576 (ftC ((0:Nat):Int)+now.getD (nxC n a ((0:Nat):Int)).toNat 0)) (ftC ((1:Nat):Int)+now.getD (nxC n a ((1:Nat):Int)).toNat 0);have h3:=UH (B9 (B9 1048576 (ftC ((0:Nat):Int)+now.getD (nxC n a ((0:Nat):Int)).toNat 0)) (ftC ((1:Nat):Int)+now.getD (nxC n a ((1:Nat):Int)).toNat 0)) (ftC ((2:Nat):Int)+now.getD (nxC n a ((2:Nat):Int)).toNat 0);simp only[Int.natCast_zero,Int.natCast_one,show ((2:Nat):Int)=2 from rfl] at h1 h2 h3 |-;omega
theorem Ot {n:Nat}(hn:0<n) {a s:Int}(ha:0<=a) (hs:0<=s):0<=nxC n a s/\nxC n a s<n:=by unfold nxC;rw[Int.tmod_eq_emod_of_nonneg (by omega)];exact⟨Int.emod_nonneg _ (by omega),Int.emod_lt_of_pos _ (by omega)⟩
theorem TM {l:List Int}(h:l ≠ []):Zl l ∈ l /\ ∀ x ∈ l, Zl l <= x:=by
  cases l with
  | nil => exact (h rfl).elim
  | cons a l =>
    show l.foldl B9 a ∈ a :: l /\ _;have key:∀ (l:List Int) (a:Int), (l.foldl B9 a = a \/ l.foldl B9 a ∈ l) /\ l.foldl B9 a <= a /\ ∀ x ∈ l, l.foldl B9 a <= x:=by
      intro l;induction l with
      | nil => exactλa => ⟨.inl rfl, Int.le_refl _, λx hx => by cases hx⟩
      | cons b l ih =>
        intro a;obtain ⟨h1, h2, h3⟩:=ih (B9 a b);obtain ⟨g1, g2, g3⟩:=UH a b;rw [w5];refine ⟨?_, by omega, λx hx => ?_⟩
        . rcases h1 with h1 | h1
          . rw [h1]; rcases g3 with g3 | g3
            . exact .inl g3
            . exact .inr (by rw [g3]; exact zu ..)
          . exact .inr (zi _ h1)
        . rcases zn.1 hx with rfl | hx
          . omega
          . exact h3 x hx
    obtain ⟨h1, h2, h3⟩:=key l a
    refine ⟨by rcases h1 with h1 | h1
               . show l.foldl B9 a ∈ _; rw [h1]; exact zu ..
               . exact zi _ h1, λx hx => ?_⟩
    rcases zn.1 hx with rfl | hx
    . exact h2
    . exact h3 x hx
theorem Co (n:Nat) (now nxt:List Int) (a:Int):0<=SO n now nxt a/\SO n now nxt a<=2:=by unfold SO;split;omega;split<;>omega
theorem Cy {n:Nat}{wv:Nat->Int->Bool}{m k:Nat}{a:Int}(ha:0<=a/\a<n) (h:(QW n wv m (k+1)).getD a.toNat 0<1048576) :
  wv (m-1-k) a=true/\ftC (SO n (QW n wv m (k+1)) (QW n wv m k) a)+(QW n wv m k).getD (nxC n a (SO n (QW n wv m (k+1)) (QW n wv m k) a)).toNat 0=(QW n wv m (k+1)).getD a.toNat 0:=by
 obtain⟨a,rfl⟩:∃ b:Nat,a=b:=⟨a.toNat,by omega⟩;have e:(QW n wv m (k+1)).getD (a:Int).toNat 0=pvC n (wv (m-1-k) a) (QW n wv m k) a 3:=by rw[zq];exact Sx _ _ (by omega)
 rw[e] at h;obtain⟨h1,h2⟩:=Q1k h;refine⟨h1,?_⟩;rw[<-e] at h2;unfold SO;split
 .rename_i c;exact c
 .split
  .rename_i c;exact c
  .rcases h2 with h2|h2|h2
   .rename_i c _;exact(c h2.symm).elim
   .rename_i c;exact(c h2.symm).elim
   .exact h2.symm
theorem AU {n:Nat}{now nxt:List Int}{a t:Int}(h0:0<=t) (h:ftC t+nxt.getD (nxC n a t).toNat 0=now.getD a.toNat 0):SO n now nxt a<=t:=by
 unfold SO;split
 .exact h0
 .rename_i c;have h1:t≠0:=λe=>by subst e;exact c h
  split
  .omega
  .rename_i c2;have h2:t≠1:=λe=>by subst e;exact c2 h
   omega
theorem Q52 {n:Nat}{wv:Nat->Int->Bool}{m k:Nat}{a:Int}(ha:0<=a/\a<n):(QW n wv m (k+1)).getD a.toNat 0=pvC n (wv (m-1-k) a) (QW n wv m k) a.toNat 3:=by obtain⟨a,rfl⟩:∃ b:Nat,a=b:=⟨a.toNat,by omega⟩;rw[zq];exact Sx _ _ (by omega)
def Vk:AL (Int×Int):=(.cons (.k (.i .u32)) (.one (.k (.i .u32))))
def GJ (d:Int×Int):Prop:=False
def KQ (d:Int×Int):SV:=.tup [.val (.i .u32) (0:Int),.val (.i .u32) (0:Int)]
def KH (d:Int×Int):List OB:=[]
def WX:CSp:=V5 Vk GJ KQ KH
def Wm (a:Int) (b:Int):Prop :=
 (InK .u64 a)/\(InK .u64 b)/\(InK .u64 (a*b))/\(0<=(32:Int))/\(InK .u32 (Xf .u64 (a*b) (32:Int)))/\(InK .u32 (a*b))/\(((Xf .u64 (a*b) (32:Int))=(0:Int)/\(a*b)=(0:Int)/\(([]:List SV)=[]))/\(True))
def V3:Cx:=⟨[],[],17,[],0,[],[],[],[],false,[],[],[],[]⟩
def DX (a:Int) (b:Int):List (Nat×LoopAnn):=[]
theorem DC (d:Int×Int):gwp (V3) (DX d.1 d.2) Z1s 0 (VF [.tmp 4,.tmp 5] (KQ d) (KH d)) (Qx 17 (AL.can Vk d))=Wm d.1 d.2:=by kernel_rfl
abbrev B7:Prop:=OkC Tryz.prog 165 WX
theorem Da (h:∀ (a:Int) (b:Int),(False)->Wm a b):OkC Tryz.prog 165 WX :=
 Z5 I8 mixed (C:=V3) (V:=λ(d:Int×Int)=>Wm d.1 d.2) ⟨.nil,XsOk.nil,ItsOk.nil,YlOk.nil,IysOk.nil,XfOk.nil⟩ (DC) λd hp=>h d.1 d.2 hp
theorem Dr:B7:=Da λa b h=>h.elim
def Vb:AL (Int×Int):=(.cons (.k (.i .u64)) (.one (.k (.i .u64))))
def Gu (d:Int×Int):Prop:=0<=d.1/\d.1<=65535/\0<=d.2/\d.2<=65535
def KT (d:Int×Int):SV:=.tup [.val (.i .u64) (0:Int),.val (.i .u64) (d.1*d.2)]
def KX (d:Int×Int):List OB:=[]
def Y8:CSp:=V5 Vb Gu KT KX
abbrev MU (a:Int) (b:Int):=(((Xf .u64 a (32:Int))*(Q8 .and .u64 b (4294967295:Int)))+(Xf .u64 ((Q8 .and .u64 a (4294967295:Int))*(Q8 .and .u64 b (4294967295:Int))) (32:Int)))
abbrev RQ (a:Int) (b:Int):=((((Xf .u64 a (32:Int))*(Xf .u64 b (32:Int)))+(Xf .u64 (MU a b) (32:Int)))+(Xf .u64 ((Q8 .and .u64 (MU a b) (4294967295:Int))+((Q8 .and .u64 a (4294967295:Int))*(Xf .u64 b (32:Int)))) (32:Int)))
def JL (a:Int) (b:Int):Prop :=
 (0<=(32:Int))/\(0<=(32:Int))/\(InK .u64 ((Q8 .and .u64 a (4294967295:Int))*(Q8 .and .u64 b (4294967295:Int))))/\(InK .u64 ((Xf .u64 a (32:Int))*(Q8 .and .u64 b (4294967295:Int))))/\(0<=(32:Int))/\(InK .u64 (MU a b))/\(0<=(32:Int))/\(InK .u64 ((Q8 .and .u64 a (4294967295:Int))*(Xf .u64 b (32:Int))))/\(InK .u64 ((Q8 .and .u64 (MU a b) (4294967295:Int))+((Q8 .and .u64 a (4294967295:Int))*(Xf .u64 b (32:Int)))))/\(InK .u64 ((Xf .u64 a (32:Int))*(Xf .u64 b (32:Int))))/\(InK .u64 (((Xf .u64 a (32:Int))*(Xf .u64 b (32:Int)))+(Xf .u64 (MU a b) (32:Int))))/\(0<=(32:Int))/\(InK .u64 (RQ a b))/\(InK .u64 (a*b))/\(((RQ a b)=(0:Int)/\(a*b)=(a*b)/\(([]:List SV)=[]))/\(True))
def Vf:Cx:=⟨[],[],51,[],0,[],[],[],[],false,[],[],[],[]⟩
def Dt (a:Int) (b:Int):List (Nat×LoopAnn):=[]
theorem DG (d:Int×Int):gwp (Vf) (Dt d.1 d.2) Z1g 0 (VF [.tmp 4,.tmp 5] (KT d) (KX d)) (Qx 51 (AL.can Vb d))=JL d.1 d.2:=by kernel_rfl
abbrev DJ:Prop:=OkC Tryz.prog 166 Y8
theorem D9 (h:∀ (a:Int) (b:Int),(0<=a/\a<=65535/\0<=b/\b<=65535)->JL a b):OkC Tryz.prog 166 Y8 :=
 Z5 FN mixed (C:=Vf) (V:=λ(d:Int×Int)=>JL d.1 d.2) ⟨.nil,XsOk.nil,ItsOk.nil,YlOk.nil,IysOk.nil,XfOk.nil⟩ (DG) λd hp=>h d.1 d.2 hp
theorem Q0r {x:Nat}(h:x<18446744073709551616):IntKind.wrap .u64 (x:Int)=x:=by
 have e:((x:Int) % (18446744073709551616:Int))=x:=by omega
 show (if (false&&decide ((x:Int) % (18446744073709551616:Int)>=9223372036854775808))=true then (x:Int) % (18446744073709551616:Int)-18446744073709551616 else (x:Int) % (18446744073709551616:Int))=x;simp only[e,Bool.false_and,zC,if_false]
theorem Pg {x:Nat}(h:x<=4294967295):Q8 .and .u64 (x:Int) 4294967295=x:=by
 have e:(BitVec.ofInt 64 (x:Int) &&& BitVec.ofInt 64 (4294967295:Int)).toNat=x:=by rw[BitVec.toNat_and,PR (by omega),show (4294967295:Int)=((4294967295:Nat):Int) from rfl,PR (by omega)];have:=Nat.and_two_pow_sub_one_eq_mod x 32;simp only[Nat.reducePow,Nat.add_one_sub_one,Nat.reduceSub] at this;rw[this];omega
 show IntKind.wrap .u64 ((BitVec.ofInt 64 (x:Int) &&& BitVec.ofInt 64 (4294967295:Int)).toNat:Int)=_;rw[e,Q0r (by omega)]
theorem D_ {x:Nat}(h:x<=4294967295):Xf .u64 (x:Int) 32=0:=by have:Nat.min (Int.toNat 32) 64=32:=rfl;simp only[Xf,IntKind.bits,this];rw[Int.fdiv_eq_ediv_of_nonneg _ (Int.le_of_lt (Int.pow_pos (by omega)))];omega
theorem DA:DJ:=D9 λa b h=>by
 obtain⟨h1,h2,h3,h4⟩:=h;obtain⟨x,rfl⟩:=xk h1;obtain⟨y,rfl⟩:=xk h3;have wg:x*y<=65535*65535:=Nat.mul_le_mul (by omega) (by omega);have e0:((0:Nat):Int)=0:=rfl;have s0:=D_ (x:=0) (by omega);have m0:=Pg (x:=0) (by omega);rw[e0] at s0 m0;have s3:=D_ (x:=x*y) (by omega);have e1:(x:Int)*(y:Int)=((x*y:Nat):Int):=by norm_cast
 unfold JL;(try delta MU RQ);(try delta lI gD sT I64 ND pj8 pj4);simp only[true_and,and_true,eq_self_iff_true,exists_eq_left',exists_const,zm,xA,zT,bne_iff_ne,ne_eq,xG,bne_eq_false_iff_eq,Bool.not_eq_true',xm,xC,wB,zq,Int.ofNat_lt,gt_iff_lt,ge_iff_le,Pg (show x<=4294967295 by omega),Pg (show y<=4294967295 by omega),D_ (show x<=4294967295 by omega),D_ (show y<=4294967295 by omega),e1,s3,Int.zero_mul,Int.mul_zero,Int.add_zero,m0,s0,Bb];and_intros<;>omega
def N1:AL (Int×Int):=(.cons (.k (.i .u64)) (.one (.k (.i .u64))))
def Bl (d:Int×Int):Prop:=0<=d.1/\d.1<=65535/\0<=d.2/\d.2<=65535
def VT (d:Int×Int):SV:=.tup [.val (.i .u64) (0:Int),.val (.i .u64) (d.1*d.2)]
def VL (d:Int×Int):List OB:=[]
def Kf:CSp:=V5 N1 Bl VT VL
def XC (a:Int) (b:Int):Prop :=
 (false=true ->
  (InK .u32 a)/\(InK .u32 b)/\(False)/\(InK .u64 (0:Int))/\(InK .u64 (0:Int))/\(((0:Int)=(0:Int)/\(0:Int)=(a*b)/\(([]:List SV)=[]))/\(True))) /\
 (false=false ->
  (0<=a/\a<=65535/\0<=b/\b<=65535)/\(((0:Int)=(0:Int)/\(a*b)=(a*b)/\(([]:List SV)=[]))/\(True)))
def N6:Cx:=⟨[],[(165,WX),(166,Y8)],30,[],0,[],[],[],[],false,[],[],[],[]⟩
def Hl (a:Int) (b:Int):List (Nat×LoopAnn):=[]
theorem Hb (d:Int×Int):gwp (N6) (Hl d.1 d.2) Z17 0 (VF [.tmp 4,.tmp 5] (VT d) (VL d)) (Qx 30 (AL.can N1 d))=XC d.1 d.2:=by kernel_rfl
abbrev Hk:Prop:=OkC Tryz.prog 144 Kf
theorem Hp (h:∀ (a:Int) (b:Int),(0<=a/\a<=65535/\0<=b/\b<=65535)->XC a b):OkC Tryz.prog 144 Kf :=
 Z5 FD mixed (C:=N6) (V:=λ(d:Int×Int)=>XC d.1 d.2) ⟨(.cons Dr (.cons DA .nil)),XsOk.nil,ItsOk.nil,YlOk.nil,IysOk.nil,XfOk.nil⟩ (Hb) λd hp=>h d.1 d.2 hp
theorem Hj:Hk:=Hp λa b h=>by simp only[XC];exact⟨λh=>by simp at h,λ_=>⟨h,(by and_intros<;>first|rfl|trivial|simp)⟩⟩
def XM:AL (List Int×Int):=(.cons (.k (.list (.i .i64))) (.one (.k (.i .i64))))
def Vn (d:List Int×Int):Prop:=d.1.length<=1000/\0<=d.2/\d.2<=1000
def Xo (d:List Int×Int):SV:=.lst 0
def Xt (d:List Int×Int):List OB:=[.lst 3 (.i .i64) (NL d.1 d.2.toNat) false]
def Jv:CSp:=V5 XM Vn Xo Xt
def Z7 (l:List Int) (n:Int):Prop :=
 ((decide (n<(0:Int)))=true ->
  False) /\
 ((decide (n<(0:Int)))=false ->
  (InK .u64 (lI l))/\(InK .u64 n)/\(0<=(lI l)/\(lI l)<=65535/\0<=n/\n<=65535)/\(((decide ((0:Int) > (0:Int)))||(decide (((lI l)*n) > (9223372036854775807:Int))))=true ->
   False) /\
  (((decide ((0:Int) > (0:Int)))||(decide (((lI l)*n) > (9223372036854775807:Int))))=false ->
   (I64 ((lI l)*n))/\(0<=((lI l)*n))/\(((lI l)*n)<=((lI l)*n))/\(((lI l)*n)*8<=70368744177664)/\(((lI l)*n)<=70368744177664)/\∃ (e2:Unit) (d20:(List Int)×Int),((True/\((Nat.min (List.length l) (List.length (List.replicate (Int.toNat ((lI l)*n)) (0:Int))):Nat):Int)=d20.2/\True)/\((((List.take (List.length (List.replicate (Int.toNat ((lI l)*n)) (0:Int))) l)++(List.drop (List.length l) (List.replicate (Int.toNat ((lI l)*n)) (0:Int))))=d20.1/\false=false)/\True)) /\
   LoopP (λ(d2:(List Int)×Int) (q2:((List Int)×Int)->Prop) =>
    ((decide (d2.2<(lI d2.1)))=true ->
     (0<=d2.2)/\(d2.2<=(lI d2.1))/\((lI d2.1)<=(List.length d2.1))/\(0<=(0:Int))/\((0:Int)<=d2.2)/\(d2.2<=(List.length d2.1))/\(I64 (d2.2+((Nat.min (List.length (List.take (Int.toNat (d2.2-(0:Int))) (List.drop (Int.toNat (0:Int)) d2.1))) (Int.toNat ((lI d2.1)-d2.2)):Nat):Int)))/\(∃ d3:(List Int)×Int,((True/\(d2.2+((Nat.min (List.length (List.take (Int.toNat (d2.2-(0:Int))) (List.drop (Int.toNat (0:Int)) d2.1))) (Int.toNat ((lI d2.1)-d2.2)):Nat):Int))=d3.2/\True)/\((((List.take (Int.toNat d2.2) d2.1)++((List.take (Int.toNat ((lI d2.1)-d2.2)) (List.take (Int.toNat (d2.2-(0:Int))) (List.drop (Int.toNat (0:Int)) d2.1)))++(List.drop ((Int.toNat d2.2)+Nat.min (List.length (List.take (Int.toNat (d2.2-(0:Int))) (List.drop (Int.toNat (0:Int)) d2.1))) (Int.toNat ((lI d2.1)-d2.2))) d2.1)))=d3.1/\false=false)/\True))/\q2 d3)) /\
    ((decide (d2.2<(lI d2.1)))=false ->
     (True/\((d2.1=(NL l n.toNat)/\false=false)/\True)))) d20))
def XT:Cx:=⟨[(3,(.i .i64))],[(144,Kf)],48,[],0,[],[],[],[],false,[],[],[],[]⟩
def VS (l:List Int) (n:Int):List (Nat×LoopAnn):=[(0,⟨Unit,(List Int)×Int,[7,8],λe x=>[.lst 30,.val (.i .i64) x.2],λe x=>[(30,.slot 7,.lst 3 (.i .i64) x.1 false)]⟩)]
theorem VR (d:List Int×Int):gwp (XT) (VS d.1 d.2) Z19 0 (VF [.tmp 4] (Xo d) (Xt d)) (Qx 48 (AL.can XM d))=Z7 d.1 d.2:=by kernel_rfl
abbrev U6:Prop:=OkC Tryz.prog 115 Jv
theorem U8 (h:∀ (l:List Int) (n:Int),(l.length<=1000/\0<=n/\n<=1000)->Z7 l n):OkC Tryz.prog 115 Jv :=
 Z5 FJ mixed (C:=XT) (V:=λ(d:List Int×Int)=>Z7 d.1 d.2) ⟨(.cons Hj .nil),XsOk.nil,ItsOk.nil,YlOk.nil,IysOk.nil,XfOk.nil⟩ (VR) λd hp=>h d.1 d.2 hp
theorem Ub:U6:=U8 λl n h=>by
 obtain⟨h1,h2,h3⟩:=h;obtain⟨m,rfl⟩:=xk h2;have wh:l.length*m<=1000*1000:=Nat.mul_le_mul h1 (by omega);have e1:(l.length:Int)*(m:Int)=((l.length*m:Nat):Int):=by norm_cast
 unfold Z7;(try delta lI gD sT I64 ND pj8 pj4);simp only[true_and,and_true,eq_self_iff_true,exists_eq_left',exists_const,zm,xA,zT,bne_iff_ne,ne_eq,xG,bne_eq_false_iff_eq,Bool.not_eq_true',xm,xC,wB,zq,Int.ofNat_lt,gt_iff_lt,ge_iff_le,e1,Qn,Bb,Int.sub_zero,xU,Int.toNat_zero,x5];refine⟨by omega,λ_=>⟨by omega,by omega,by omega,λh=>?_,λh=>⟨by omega,by omega,by omega,by omega,by omega,?_⟩⟩⟩
 .simp at h;omega
 refine⟨(_,_),(by and_intros<;>first|rfl|trivial|simp),?_⟩;refine⟨λd=>∃ k:Nat,d.2=k/\Q8q l m d.1 k,λd=>d.1.length-d.2.toNat,⟨_,rfl,O6 l m _⟩,?_⟩;rintro⟨xs,_⟩ ⟨k,rfl,hI⟩;dsimp only at hI |-;have fy:=hI.1;have hk:=hI.2.1;refine⟨λah=>?_,λbj=>?_⟩
 .have ah:k<xs.length:=by omega
  obtain⟨g1,g2⟩:=Iv hI ah;have e2:((xs.length:Int)-(k:Int)).toNat=xs.length-k:=by omega
  have g3:=g1.2.1;have g4:=g1.1;have hc:Nat.min (List.take k xs).length (xs.length-k)<=1000000:=by have:Nat.min (List.take k xs).length (xs.length-k)<=_:=Nat.min_le_left _ _;simp only[xE] at this |-;omega
  simp only[zq,e2];generalize Nat.min (List.take k xs).length (xs.length-k)=c at g1 g2 g3 g4 hc |-;refine⟨by omega,by omega,by omega,by omega,by omega,by omega,⟨by omega,by omega⟩,(_,((k+c:Nat):Int)),(by and_intros<;>first|rfl|trivial|omega),⟨_,rfl,g1⟩,?_⟩;dsimp only;rw[g4];omega
 .have:=Q16 hI (by omega);rw[this]
def JY:AL (Unit):=.nil
def K4 (xs:List (List Int)) (nl:Bool) (d:Unit):Prop:=xs.length<=1000000
def JH (xs:List (List Int)) (nl:Bool) (d:Unit):SV:=.tup []
def JA (xs:List (List Int)) (nl:Bool) (d:Unit):List (List Int):=(List.reverse xs)
def ZK:XSp:=Q0j NF (Fb 27 (.list (.i .i64)) JY K4 JH JA)
def Zu (xs:List (List Int)) (nl:Bool) :Prop:=∀ vals:List Value,
 (I64 ((lI xs)-(1:Int)))/\∃ (e3:Unit) (d30:(List (List Int))×Int×Int),((True/\(0:Int)=d30.2.1/\((lI xs)-(1:Int))=d30.2.2/\True)/\((xs=d30.1/\nl=nl)/\(vals=vals/\(True/\(([]:List SV)=[])))/\True)) /\
 LoopP (λ(d3:(List (List Int))×Int×Int) (q3:((List (List Int))×Int×Int)->Prop) =>
  ((decide (d3.2.1<d3.2.2))=true ->
   (0<=d3.2.2)/\(d3.2.2<(List.length d3.1))/\(0<=d3.2.1)/\(d3.2.1<(List.length d3.1))/\(0<=d3.2.1)/\(d3.2.1<(List.length d3.1))/\(0<=d3.2.2)/\(d3.2.2<(List.length (sT d3.1 d3.2.1 (gD d3.1 d3.2.2 []))))/\(I64 (d3.2.1+(1:Int)))/\(I64 (d3.2.2-(1:Int)))/\(∃ d4:(List (List Int))×Int×Int,((True/\(d3.2.1+(1:Int))=d4.2.1/\(d3.2.2-(1:Int))=d4.2.2/\True)/\(((sT (sT d3.1 d3.2.1 (gD d3.1 d3.2.2 [])) d3.2.2 (gD d3.1 d3.2.1 []))=d4.1/\nl=nl)/\(vals=vals/\(True/\(([]:List SV)=[])))/\True))/\q3 d4)) /\
  ((decide (d3.2.1<d3.2.2))=false ->
   (vals=vals/\(True/\(([]:List SV)=[]))/\((([]:List SV)=[]))/\(d3.1=(List.reverse xs)/\nl=nl)))) d30
def JS:Cx:=⟨[],[],28,[0],0,[],[],[],[],false,[],[],[],[]⟩
def X3 (xs:List (List Int)) (nl:Bool)  (vals:List Value):List (Nat×LoopAnn):=[(0,⟨Unit,(List (List Int))×Int×Int,[0,2,3],λe x=>[.lst 0,.val (.i .i64) x.2.1,.val (.i .i64) x.2.2],λe x=>[(0,.slot 0,.lst 27 (.list (.i .i64)) x.1 nl),(4000000,.key 4000000,.stk [.lst 0] vals)]⟩)]
theorem Ky (xs:List (List Int)) (nl:Bool) (d:Unit):(∀ vals,gwp JS (X3 xs nl  vals) Z1m 0 (Q7b vals [] (JH xs nl d) (.lst 27 (.list (.i .i64)) (JA xs nl d) nl) (.lst 0)) (DH 28 (.lst 0) (.lst 27 (.list (.i .i64)) xs nl) vals (AL.can JY d)))=Zu xs nl :=by kernel_rfl
abbrev Kr:Prop:=XOk Tryz.prog 117 ZK
theorem KU (h:∀ (xs:List (List Int)) (nl:Bool) ,(xs.length<=1000000)->Zu xs nl ):XOk Tryz.prog 117 ZK :=
 Od I1 mixed Kv (C:=JS) ⟨.nil,XsOk.nil,ItsOk.nil,YlOk.nil,IysOk.nil,XfOk.nil⟩ (L:=λxs nl (d:Unit) vals=>X3 xs nl  vals) (V:=λxs nl (d:Unit)=>Zu xs nl ) Ky λxs nl d hp=>h xs nl  hp
theorem K0:Kr:=KU λxs nl hl vals=>by
 (try delta lI gD sT I64 ND pj8 pj4)
 simp only[true_and,and_true,eq_self_iff_true,exists_eq_left',exists_const,zm,xA,zT,bne_iff_ne,ne_eq,xG,bne_eq_false_iff_eq,Bool.not_eq_true',xm,xC,wB,zq,Int.ofNat_lt,gt_iff_lt,ge_iff_le,Qn];refine⟨by omega,(xs,0,(xs.length:Int)-1),⟨⟨rfl,rfl⟩,rfl⟩,?_⟩;refine⟨λd=>∃ i:Nat,d.2.1=i/\d.2.2=(xs.length:Int)-1-i/\2*i<=xs.length+1/\d.1.length=xs.length/\∀ k,k<xs.length->d.1[k]?=if k<i\/xs.length<=k+i then xs[xs.length-1-k]? else xs[k]?,λd=>xs.length-2*d.2.1.toNat,⟨0,rfl,by simp,by omega,rfl,λk hk=>by rw[z8 (by omega)]⟩,?_⟩;rintro⟨ys,a,b⟩ ⟨i,ha,hb,h1,h2,h3⟩;simp only at ha hb h2 h3;subst ha;subst hb;refine⟨λah=>?_,λbj=>?_⟩
 .dsimp only at ah |-;have hi:i<xs.length:=by omega
  have hj:xs.length-1-i<xs.length:=by omega
  have n7:((xs.length:Int)-1-i).toNat=xs.length-1-i:=by omega
  simp only[zq,n7,wD,h2];refine⟨by omega,by omega,by omega,by omega,by omega,by omega,by omega,by omega,by omega,by omega,(_,_,_),⟨⟨rfl,rfl⟩,rfl⟩,⟨i+1,by simp,by simp;omega,by omega,by simp[h2],λk hk=>?_⟩,by simp;omega⟩;simp only[xH,wD,h2];have e1:=h3 i hi;have e2:=h3 (xs.length-1-i) hj;rw[z8 (by omega)] at e1 e2;have g1:ys.getD i []=xs[i]:=by rw[zd,e1,z1 hi];rfl
  have g2:ys.getD (xs.length-1-i) []=xs[xs.length-1-i]:=by rw[zd,e2,z1 hj];rfl
  rw[g1,g2];by_cases k1:xs.length-1-i=k
  .subst k1;rw[z7 rfl,z7 hj,z7 (by omega)];have:xs.length-1-(xs.length-1-i)=i:=by omega
   rw[this,z1 hi]
  .rw[z8 k1];by_cases k2:i=k
   .subst k2;rw[z7 rfl,z7 hi,z7 (by omega),z1 hj]
   .rw[z8 k2,h3 k hk];by_cases k3:k<i\/xs.length<=k+i
    .rw[z7 k3,z7 (by omega)]
    .rw[z8 k3,z8 (by omega)]
 .dsimp only at bj |-;apply zV;intro k;by_cases hk:k<xs.length
  .rw[h3 k hk,List.getElem?_reverse hk];by_cases k3:k<i\/xs.length<=k+i
   .rw[z7 k3]
   .rw[z8 k3];have:xs.length-1-k=k:=by omega
    rw[this]
  .rw[zk (by omega),zk (by simp;omega)]
def Yk:AL (List Int):=(.one (.k (.list (.i .i64))))
def No (d:List Int):Prop:=d≠[]/\d.length<=1000000
def WS (d:List Int):SV:=.val (.i .i64) (Zl d)
def WM (d:List Int):List OB:=[]
def Xm:CSp:=V5 Yk No WS WM
def ZQ (l:List Int):Prop :=
 ((decide ((lI l)<(1:Int)))=true ->
  False) /\
 ((decide ((lI l)<(1:Int)))=false ->
  (0<=(0:Int))/\((0:Int)<(List.length l))/\∃ (e2:Unit) (d20:Int×Int),((l=l/\(gD l (0:Int) 0)=d20.1/\(1:Int)=d20.2/\True)/\(True)) /\
  LoopP (λ(d2:Int×Int) (q2:(Int×Int)->Prop) =>
   ((decide (d2.2<(lI l)))=true ->
    (0<=d2.2)/\(d2.2<(List.length l))/\(I64 (d2.2+(1:Int)))/\(∃ d3:Int×Int,((l=l/\(B9 d2.1 (gD l d2.2 0))=d3.1/\(d2.2+(1:Int))=d3.2/\True)/\(True))/\q2 d3)) /\
   ((decide (d2.2<(lI l)))=false ->
    (d2.1=(Zl l)/\(True)))) d20)
def YA:Cx:=⟨[],[],25,[],0,[],[],[],[],false,[],[],[],[]⟩
def Mi (l:List Int):List (Nat×LoopAnn):=[(0,⟨Unit,Int×Int,[0,3,4],λe x=>[.val (.list (.i .i64)) l,.val (.i .i64) x.1,.val (.i .i64) x.2],λe x=>[]⟩)]
theorem NH (d:List Int):gwp (YA) (Mi d) c75 0 (VF [.tmp 2] (WS d) (WM d)) (Qx 25 (AL.can Yk d))=ZQ d:=by kernel_rfl
abbrev M6:Prop:=OkC Tryz.prog 75 Xm
theorem Mm (h:∀ (l:List Int),(l≠[]/\l.length<=1000000)->ZQ l):OkC Tryz.prog 75 Xm :=
 Z5 Q71 mixed (C:=YA) (V:=λ(d:List Int)=>ZQ d) ⟨.nil,XsOk.nil,ItsOk.nil,YlOk.nil,IysOk.nil,XfOk.nil⟩ (NH) λd hp=>h d hp
theorem Mp:M6:=Mm λl h=>by
 obtain⟨h1,h2⟩:=h;have hl:0<l.length:=xx.2 h1;unfold ZQ;(try delta lI gD sT I64 ND pj8 pj4);simp only[true_and,and_true,eq_self_iff_true,exists_eq_left',exists_const,zm,xA,zT,bne_iff_ne,ne_eq,xG,bne_eq_false_iff_eq,Bool.not_eq_true',xm,xC,wB,zq,Int.ofNat_lt,gt_iff_lt,ge_iff_le,Qn];refine⟨λh=>by omega,λ_=>⟨by omega,by omega,(l[0],1),⟨⟨by rw[show Int.toNat 0=0 from rfl,Qh hl],rfl⟩,?_⟩⟩⟩;have e0:l[0]=l.getD 0 0:=by rw[Qh hl]
 refine⟨λd=>∃ k:Nat,k<l.length/\d=((l.tail.take k).foldl B9 (l.getD 0 0),(k:Int)+1),λd=>l.length-d.2.toNat,⟨0,by omega,by rw[e0];rfl⟩,?_⟩;rintro _ ⟨k,bt,rfl⟩;dsimp only;have ht:l.tail.length=l.length-1:=List.length_tail ..;refine⟨λah=>?_,λbj=>?_⟩
 .have ah:k<l.tail.length:=by omega
  refine⟨by omega,by omega,by omega,(_,_),⟨rfl,rfl⟩,⟨k+1,by omega,?_⟩,by simp;omega⟩;rw[XQ ah,List.foldl_append,show ((k:Int)+1).toNat=k+1 from rfl,Qh (show k+1<l.length by omega),Prod.mk.injEq,List.getElem_tail];exact⟨rfl,by omega⟩
 .rw[zx (by omega)];rfl
def Wf:AL (List Int×Int):=(.cons (.k (.list (.i .i64))) (.one (.k (.i .i64))))
def U3 (d:List Int×Int):Prop:=d.1.length<=1000000
def XW (d:List Int×Int):SV:=.val (.i .i64) (GX d.1 (λy=>decide (y=d.2)))
def XP (d:List Int×Int):List OB:=[]
def JG:CSp:=V5 Wf U3 XW XP
def Zi (l:List Int) (nd:Int):Prop :=
 ∃ (e2:Unit) (d20:Int),((l=l/\nd=nd/\(lI l)=(lI l)/\(0:Int)=d20/\True)/\(True)) /\
 LoopP (λ(d2:Int) (q2:(Int)->Prop) =>
  ((decide (d2<(lI l)))=true ->
   (0<=d2)/\(d2<(List.length l))/\((nd==(gD l d2 0))=true ->
    (d2=(GX l (λy=>decide (y=nd)))/\(True))) /\
   ((nd==(gD l d2 0))=false ->
    (I64 (d2+(1:Int)))/\(∃ d3:Int,((l=l/\nd=nd/\(lI l)=(lI l)/\(d2+(1:Int))=d3/\True)/\(True))/\q2 d3))) /\
  ((decide (d2<(lI l)))=false ->
   ((-1:Int)=(GX l (λy=>decide (y=nd)))/\(True)))) d20
def Ww:Cx:=⟨[],[],19,[],0,[],[],[],[],false,[],[],[],[]⟩
def UM (l:List Int) (nd:Int):List (Nat×LoopAnn):=[(0,⟨Unit,Int,[0,1,7,8],λe x=>[.val (.list (.i .i64)) l,.val (.i .i64) nd,.val (.i .i64) (((List.length l):Nat):Int),.val (.i .i64) x],λe x=>[]⟩)]
theorem Us (d:List Int×Int):gwp (Ww) (UM d.1 d.2) c76 0 (VF [.tmp 4] (XW d) (XP d)) (Qx 19 (AL.can Wf d))=Zi d.1 d.2:=by kernel_rfl
abbrev UF:Prop:=OkC Tryz.prog 76 JG
theorem Uo (h:∀ (l:List Int) (nd:Int),(l.length<=1000000)->Zi l nd):OkC Tryz.prog 76 JG :=
 Z5 Q76 mixed (C:=Ww) (V:=λ(d:List Int×Int)=>Zi d.1 d.2) ⟨.nil,XsOk.nil,ItsOk.nil,YlOk.nil,IysOk.nil,XfOk.nil⟩ (Us) λd hp=>h d.1 d.2 hp
theorem UN:UF:=Uo λl nd hp=>by
 unfold Zi;(try delta lI gD sT I64 ND pj8 pj4);simp only[true_and,and_true,eq_self_iff_true,exists_eq_left',exists_const,zm,xA,zT,bne_iff_ne,ne_eq,xG,bne_eq_false_iff_eq,Bool.not_eq_true',xm,xC,wB,zq,Int.ofNat_lt,gt_iff_lt,ge_iff_le];refine LoopP.count l.length (λk=>(l.take k).any (λy=>decide (y=nd))=false) (by simp) λk bt hJ q hq=>?_;simp only[true_and,and_true,eq_self_iff_true,exists_eq_left',exists_const,zm,xA,zT,bne_iff_ne,ne_eq,xG,bne_eq_false_iff_eq,Bool.not_eq_true',xm,xC,wB,zq,Int.ofNat_lt,gt_iff_lt,ge_iff_le,Qn];refine⟨λah=>?_,λbj=>?_⟩
 .rw[Qh ah];refine⟨by omega,ah,λhx=>?_,λhx=>⟨by omega,hq ah ?_⟩⟩
  .rw[Ly ah (by simp[hx]) hJ]
  .rw[XQ ah,List.any_append,hJ];simp;omega
 .rw[zx (by omega)] at hJ;rw[PW hJ]
def Xi:Cx:=⟨[],[],4,[],0,[],[],[],[],false,[],[],[],[]⟩
def Xx:XSp:=Q0f Xi (λ_=>[]) Z1e [.tmp 2] 4
theorem Ku:XOk Tryz.prog 114 Xx:=M1 IL mixed (C:=Xi) ⟨.nil,XsOk.nil,ItsOk.nil,YlOk.nil,IysOk.nil,XfOk.nil⟩ _
def Wx:AL (Int×(List (Int×Int×Bool))×Int×List Int):=(.one (.agg (.cons (.k (.i .i64)) (.cons (.k (.list (.pair (.i .i64) (.pair (.i .i64) .bo)))) (.cons (.k (.i .i64)) (.one (.k (.list (.i .i64)))))))))
def U2 (d:Int×(List (Int×Int×Bool))×Int×List Int):Prop:=d.2.2.1=d.1/\QF d.1 d.2.1=0/\d.2.2.2.length<=60/\(∀ r∈d.2.2.2,-1<=r/\r<2 ^ d.1.toNat)
def XX (d:Int×(List (Int×Int×Bool))×Int×List Int):SV:=.lst 0
def XV (d:Int×(List (Int×Int×Bool))×Int×List Int):List OB:=[.lst 27 (.list (.i .i64)) (Qg d.1 d.2.1 d.2.2.2) false]
def Nj:CSp:=V5 Wx U2 XX XV
def Zd (hk:Int) (cs:List (Int×Int×Bool)) (f:Int) (cl:List Int):Prop :=
 (0<=(lI cs))/\((lI cs)<=(lI cs))/\((lI cs)*8<=70368744177664)/\((lI cs)<=70368744177664)/\∀ w1:List Value,w1=w1/\(List.length cl<4611686018427387904)/\∃ (e4:Unit) (d40:(List Int)×(List (List Int))),((True/\True/\True/\True)/\((hk=hk/\cs=cs/\f=f/\cl=cl/\(([]:List SV)=[]))/\((List.replicate (Int.toNat (lI cs)) (0:Int))=d40.1/\(([]:List SV)=[]))/\(True/\(([]:List SV)=[]))/\([(List.replicate (Int.toNat (lI cs)) (0:Int))]=d40.2/\false=false)/\True)) /\
 Q2u (List.length cl) (λ(k4:Nat) (d4:(List Int)×(List (List Int))) (q4:((List Int)×(List (List Int)))->Prop)=>∀ w4:List Value,
  ([(1048576:Int)].length<=1000/\0<=(lI cs)/\(lI cs)<=1000)/\∃ (e7:(List Int)×(List (List Int))×Int×(List Value)) (d70:(List Int)×Int),((True/\True/\True/\((lI cl)-1-(k4:Int))=e7.2.2.1/\True/\(lI (NL [(1048576:Int)] (lI cs).toNat))=(lI (NL [(1048576:Int)] (lI cs).toNat))/\(0:Int)=d70.2/\True)/\((hk=hk/\cs=cs/\f=f/\cl=cl/\(([]:List SV)=[]))/\(d4.1=e7.1/\(([]:List SV)=[]))/\(True/\(([]:List SV)=[]))/\(d4.2=e7.2.1/\false=false)/\((NL [(1048576:Int)] (lI cs).toNat)=d70.1/\false=false)/\(e7.2.2.2=w4/\(True/\True/\True/\True/\True/\True/\True/\True/\True/\True/\True/\True/\True/\True/\True/\True/\True/\True/\True/\True/\True/\True/\True/\True/\True/\True/\True/\True/\True/\True/\True/\True/\True/\True/\True/\True/\True/\True/\True/\True/\True/\True/\True/\True/\True/\True/\True/\True/\True/\True/\True/\True/\True/\True/\True/\True/\True/\True/\True/\True/\True/\True/\True/\True/\True/\True/\True/\True/\True/\True/\(([]:List SV)=[])))/\True)) /\
  LoopP (λ(d7:(List Int)×Int) (q7:((List Int)×Int)->Prop) =>
   ((decide (d7.2<(lI (NL [(1048576:Int)] (lI cs).toNat))))=true ->
    ∃ (aD:(List Int)×(List (List Int))×Int×Int×Int×(List Value)) (d100:(List Int)×Int),((True/\True/\True/\e7.2.2.1=aD.2.2.1/\True/\d7.2=aD.2.2.2.1/\(lI (NL [(1048576:Int)] (lI cs).toNat))=(lI (NL [(1048576:Int)] (lI cs).toNat))/\d7.2=(pj4 aD).1/\(0:Int)=d100.2/\True)/\((hk=hk/\cs=cs/\f=f/\cl=cl/\(([]:List SV)=[]))/\(e7.1=aD.1/\(([]:List SV)=[]))/\(True/\(([]:List SV)=[]))/\(e7.2.1=aD.2.1/\false=false)/\(d7.1=d100.1/\false=false)/\((pj4 aD).2=e7.2.2.2/\(True/\True/\True/\True/\True/\True/\True/\True/\True/\True/\True/\True/\True/\True/\True/\True/\True/\True/\True/\True/\True/\True/\True/\True/\True/\True/\True/\True/\True/\True/\True/\True/\True/\True/\True/\True/\True/\True/\True/\True/\True/\True/\True/\True/\True/\True/\True/\True/\True/\True/\True/\True/\True/\True/\True/\True/\True/\True/\True/\True/\True/\True/\True/\True/\True/\True/\True/\True/\True/\True/\(([]:List SV)=[])))/\True)) /\
    LoopP (λ(d10:(List Int)×Int) (kD:((List Int)×Int)->Prop) =>
     ((decide (d10.2<(3:Int)))=true ->
      (1<=f/\f<=24/\0<=aD.2.2.1/\aD.2.2.1<cl.length/\0<=aD.2.2.2.1/\aD.2.2.2.1<cs.length/\∀ c∈cs,QT f c=true)/\((wvB f cs cl aD.2.2.1.toNat aD.2.2.2.1)=true ->
       (0<=aD.2.2.2.1)/\(aD.2.2.2.1<(List.length d10.1))/\(True)/\(cs≠[]/\cs.length<=1000/\-1000000<=aD.2.2.2.1/\aD.2.2.2.1<=1000000/\-1000000<=d10.2/\d10.2<=1000000)/\(0<=(Int.tmod (aD.2.2.2.1+d10.2) cs.length))/\((Int.tmod (aD.2.2.2.1+d10.2) cs.length)<(List.length aD.1))/\(I64 ((if d10.2=1 then 0 else 1)+(gD aD.1 (Int.tmod (aD.2.2.2.1+d10.2) cs.length) 0)))/\(0<=aD.2.2.2.1)/\(aD.2.2.2.1<(List.length d10.1))/\(I64 (d10.2+(1:Int)))/\(∃ d11:(List Int)×Int,((True/\True/\True/\aD.2.2.1=aD.2.2.1/\True/\aD.2.2.2.1=aD.2.2.2.1/\(lI (NL [(1048576:Int)] (lI cs).toNat))=(lI (NL [(1048576:Int)] (lI cs).toNat))/\(pj4 aD).1=(pj4 aD).1/\(d10.2+(1:Int))=d11.2/\True)/\((hk=hk/\cs=cs/\f=f/\cl=cl/\(([]:List SV)=[]))/\(aD.1=aD.1/\(([]:List SV)=[]))/\(True/\(([]:List SV)=[]))/\(aD.2.1=aD.2.1/\false=false)/\((sT d10.1 aD.2.2.2.1 (B9 (gD d10.1 aD.2.2.2.1 0) ((if d10.2=1 then 0 else 1)+(gD aD.1 (Int.tmod (aD.2.2.2.1+d10.2) cs.length) 0))))=d11.1/\false=false)/\((pj4 aD).2=(pj4 aD).2/\(True/\True/\True/\True/\True/\True/\True/\True/\True/\True/\True/\True/\True/\True/\True/\True/\True/\True/\True/\True/\True/\True/\True/\True/\True/\True/\True/\True/\True/\True/\True/\True/\True/\True/\True/\True/\True/\True/\True/\True/\True/\True/\True/\True/\True/\True/\True/\True/\True/\True/\True/\True/\True/\True/\True/\True/\True/\True/\True/\True/\True/\True/\True/\True/\True/\True/\True/\True/\True/\True/\(([]:List SV)=[])))/\True))/\kD d11)) /\
      ((wvB f cs cl aD.2.2.1.toNat aD.2.2.2.1)=false ->
       (I64 (d10.2+(1:Int)))/\(∃ d12:(List Int)×Int,((True/\True/\True/\aD.2.2.1=aD.2.2.1/\True/\aD.2.2.2.1=aD.2.2.2.1/\(lI (NL [(1048576:Int)] (lI cs).toNat))=(lI (NL [(1048576:Int)] (lI cs).toNat))/\(pj4 aD).1=(pj4 aD).1/\(d10.2+(1:Int))=d12.2/\True)/\((hk=hk/\cs=cs/\f=f/\cl=cl/\(([]:List SV)=[]))/\(aD.1=aD.1/\(([]:List SV)=[]))/\(True/\(([]:List SV)=[]))/\(aD.2.1=aD.2.1/\false=false)/\(d10.1=d12.1/\false=false)/\((pj4 aD).2=(pj4 aD).2/\(True/\True/\True/\True/\True/\True/\True/\True/\True/\True/\True/\True/\True/\True/\True/\True/\True/\True/\True/\True/\True/\True/\True/\True/\True/\True/\True/\True/\True/\True/\True/\True/\True/\True/\True/\True/\True/\True/\True/\True/\True/\True/\True/\True/\True/\True/\True/\True/\True/\True/\True/\True/\True/\True/\True/\True/\True/\True/\True/\True/\True/\True/\True/\True/\True/\True/\True/\True/\True/\True/\(([]:List SV)=[])))/\True))/\kD d12))) /\
     ((decide (d10.2<(3:Int)))=false ->
      (I64 ((pj4 aD).1+(1:Int)))/\(∃ d13:(List Int)×Int,((True/\True/\True/\aD.2.2.1=e7.2.2.1/\True/\(lI (NL [(1048576:Int)] (lI cs).toNat))=(lI (NL [(1048576:Int)] (lI cs).toNat))/\((pj4 aD).1+(1:Int))=d13.2/\True)/\((hk=hk/\cs=cs/\f=f/\cl=cl/\(([]:List SV)=[]))/\(aD.1=e7.1/\(([]:List SV)=[]))/\(True/\(([]:List SV)=[]))/\(aD.2.1=e7.2.1/\false=false)/\(d10.1=d13.1/\false=false)/\(e7.2.2.2=(pj4 aD).2/\(True/\True/\True/\True/\True/\True/\True/\True/\True/\True/\True/\True/\True/\True/\True/\True/\True/\True/\True/\True/\True/\True/\True/\True/\True/\True/\True/\True/\True/\True/\True/\True/\True/\True/\True/\True/\True/\True/\True/\True/\True/\True/\True/\True/\True/\True/\True/\True/\True/\True/\True/\True/\True/\True/\True/\True/\True/\True/\True/\True/\True/\True/\True/\True/\True/\True/\True/\True/\True/\True/\(([]:List SV)=[])))/\True))/\q7 d13))) d100) /\
   ((decide (d7.2<(lI (NL [(1048576:Int)] (lI cs).toNat))))=false ->
    (((List.length e7.2.1)+(List.length [d7.1]))*24<=70368744177664)/\e7.2.2.2=w4/\(∃ d14:(List Int)×(List (List Int)),((True/\True/\True/\True)/\((hk=hk/\cs=cs/\f=f/\cl=cl/\(([]:List SV)=[]))/\(d7.1=d14.1/\(([]:List SV)=[]))/\(True/\(([]:List SV)=[]))/\((e7.2.1++[d7.1])=d14.2/\false=false)/\True))/\q4 d14))) d70)
 (λ(d15:(List Int)×(List (List Int))) =>
  (d15.2.length<=1000000)/\(True/\(((List.reverse d15.2)=(Qg hk cs cl)/\false=false)/\True))) d40
def Wh:Cx:=⟨[(3,(.i .i64)),(27,(.list (.i .i64)))],[(115,Jv),(116,Zj),(77,Wy),(78,Z9)],70,[16,65,66],0,[(114,Xx),(117,ZK)],[(143,Z3y (.i .i64))],[(27,3)],[],false,[],[],[],[]⟩
def Wt (hk:Int) (cs:List (Int×Int×Bool)) (f:Int) (cl:List Int):List (Nat×LoopAnn):=[(0,⟨Unit,(List Int)×(List (List Int)),[1,3,4],λe x=>[.box 1 0,.box 3 0,.box 4 0],λe x=>[(1,.slot 1,.cells [.val (.i .i64) hk,.val (.list (.pair (.i .i64) (.pair (.i .i64) .bo))) cs,.val (.i .i64) f,.val (.list (.i .i64)) cl] (some 134)),(3,.slot 3,.cells [.val (.list (.i .i64)) x.1] (some 27)),(4,.slot 4,.cells [.lst 16] (some 61)),(16,.cell 4 0,.lst 27 (.list (.i .i64)) x.2 false)]⟩),
 (2,⟨(List Int)×(List (List Int))×Int×(List Value),(List Int)×Int,[1,3,4,5,6,30,31],λe x=>[.box 1 0,.box 3 0,.box 4 0,.val (.i .i64) e.2.2.1,.lst 28,.val (.i .i64) (((List.length (NL [(1048576:Int)] (((List.length cs):Nat):Int).toNat)):Nat):Int),.val (.i .i64) x.2],λe x=>[(1,.slot 1,.cells [.val (.i .i64) hk,.val (.list (.pair (.i .i64) (.pair (.i .i64) .bo))) cs,.val (.i .i64) f,.val (.list (.i .i64)) cl] (some 134)),(3,.slot 3,.cells [.val (.list (.i .i64)) e.1] (some 27)),(4,.slot 4,.cells [.lst 16] (some 61)),(16,.cell 4 0,.lst 27 (.list (.i .i64)) e.2.1 false),(28,.slot 6,.lst 3 (.i .i64) x.1 false),(2000000,.key 2000000,.stk [.any,.box 1 0,.any,.box 3 0,.box 4 0,.any,.any,.any,.any,.any,.any,.any,.any,.any,.any,.any,.any,.any,.any,.any,.any,.any,.any,.any,.any,.any,.any,.any,.any,.any,.any,.any,.any,.any,.any,.any,.any,.any,.any,.any,.any,.any,.any,.any,.any,.any,.any,.any,.any,.any,.any,.any,.any,.any,.any,.any,.any,.any,.any,.any,.any,.any,.any,.any,.any,.any,.any,.any,.any,.any] e.2.2.2)]⟩),
 (4,⟨(List Int)×(List (List Int))×Int×Int×Int×(List Value),(List Int)×Int,[1,3,4,5,6,7,30,31,34],λe x=>[.box 1 0,.box 3 0,.box 4 0,.val (.i .i64) e.2.2.1,.lst 28,.val (.i .i64) e.2.2.2.1,.val (.i .i64) (((List.length (NL [(1048576:Int)] (((List.length cs):Nat):Int).toNat)):Nat):Int),.val (.i .i64) e.2.2.2.2.1,.val (.i .i64) x.2],λe x=>[(1,.slot 1,.cells [.val (.i .i64) hk,.val (.list (.pair (.i .i64) (.pair (.i .i64) .bo))) cs,.val (.i .i64) f,.val (.list (.i .i64)) cl] (some 134)),(3,.slot 3,.cells [.val (.list (.i .i64)) e.1] (some 27)),(4,.slot 4,.cells [.lst 16] (some 61)),(16,.cell 4 0,.lst 27 (.list (.i .i64)) e.2.1 false),(28,.slot 6,.lst 3 (.i .i64) x.1 false),(2000000,.key 2000000,.stk [.any,.box 1 0,.any,.box 3 0,.box 4 0,.any,.any,.any,.any,.any,.any,.any,.any,.any,.any,.any,.any,.any,.any,.any,.any,.any,.any,.any,.any,.any,.any,.any,.any,.any,.any,.any,.any,.any,.any,.any,.any,.any,.any,.any,.any,.any,.any,.any,.any,.any,.any,.any,.any,.any,.any,.any,.any,.any,.any,.any,.any,.any,.any,.any,.any,.any,.any,.any,.any,.any,.any,.any,.any,.any] e.2.2.2.2.2)]⟩)]
theorem UJ (d:Int×(List (Int×Int×Bool))×Int×List Int):gwp (Wh) (Wt d.1 d.2.1 d.2.2.1 d.2.2.2) c74 0 (VF [.tmp 2] (XX d) (XV d)) (Qx 70 (AL.can Wx d))=Zd d.1 d.2.1 d.2.2.1 d.2.2.2:=by kernel_rfl
def JF:XSp:=callV NF Nj
abbrev UA:Prop:=XOk Tryz.prog 74 JF
theorem UE (h:∀ (hk:Int) (cs:List (Int×Int×Bool)) (f:Int) (cl:List Int),(f=hk/\QF hk cs=0/\cl.length<=60/\(∀ r∈cl,-1<=r/\r<2 ^ hk.toNat))->Zd hk cs f cl):XOk Tryz.prog 74 JF :=
 Q0s Q5g mixed Kv (C:=Wh) ⟨(.cons Ub (.cons W4 (.cons Vr (.cons Jr .nil)))),(XsOk.cons Ku (XsOk.cons K0 XsOk.nil)),(ItsOk.cons (Z2q Q1i mixed) ItsOk.nil),YlOk.nil,IysOk.nil,XfOk.nil⟩ (L:=λ(d:Int×(List (Int×Int×Bool))×Int×List Int)=>Wt d.1 d.2.1 d.2.2.1 d.2.2.2) (V:=λ(d:Int×(List (Int×Int×Bool))×Int×List Int)=>Zd d.1 d.2.1 d.2.2.1 d.2.2.2) (UJ) λd hp=>h d.1 d.2.1 d.2.2.1 d.2.2.2 hp
set_option maxHeartbeats 2000000 in
theorem VM:UA:=UE λhk cs f cl h=>by
 obtain⟨hf,hb,b9,bN⟩:=h;subst hf;obtain⟨b1,b2,b3,b4⟩:=Ua hb;have hn:0<cs.length:=xx.2 b3;unfold Zd;(try delta lI gD sT I64 ND pj8 pj4);obtain⟨W,hW⟩:∃ W:Nat->Int->Bool,W=λk=>wvB f cs cl k:=⟨_,rfl⟩;have rN:∀ k a,wvB f cs cl k a=W k a:=λk a=>by rw[hW]
 have hL:Qg f cs cl=((List.range (cl.length+1)).map λk=>QW cs.length W cl.length k).reverse:=by rw[hW];rfl
 have e0:List.replicate (Int.toNat (cs.length:Int)) (0:Int)=QW cs.length W cl.length 0:=by rw[zq];rfl
 have e1:NL [(1048576:Int)] (cs.length:Int).toNat=List.replicate cs.length 1048576:=by rw[Q1l,zq]
 simp only[e0,e1,rN,hL,true_and,and_true,xU];clear e0 e1 hL;refine⟨by omega,by omega,by omega,by omega,λw1=>?_⟩;refine⟨by omega,(),(QW cs.length W cl.length 0,[QW cs.length W cl.length 0]),(by and_intros<;>first|rfl|trivial|simp),?_⟩;refine⟨λk d=>k<=cl.length/\d=(QW cs.length W cl.length k,(List.range (k+1)).map λk=>QW cs.length W cl.length k),⟨Nat.zero_le _,rfl⟩,?_,?_⟩
 .rintro k _ hk ⟨av,rfl⟩ w4;dsimp only;refine⟨⟨by simp,by omega,by omega⟩,?_⟩;have ep:(cl.length:Int)-1-(k:Int)=((cl.length-1-k:Nat):Int):=by omega
  refine⟨(QW cs.length W cl.length k,(List.range (k+1)).map λk=>QW cs.length W cl.length k,((cl.length-1-k:Nat):Int),w4),(List.replicate cs.length 1048576,0),by and_intros<;>first|rfl|trivial|exact ep,?_⟩;rw[<-OI cs.length (W (cl.length-1-k)) (QW cs.length W cl.length k)];refine LoopP.count2 cs.length (λi x=>x=Hq cs.length (W (cl.length-1-k)) (QW cs.length W cl.length k) i 0) rfl ?_;rintro i _ hi rfl q hq;dsimp only;refine⟨λc=>?_,λc=>?_⟩
  .have hi:i<cs.length:=by simp at c;omega
   refine⟨(QW cs.length W cl.length k,(List.range (k+1)).map λk=>QW cs.length W cl.length k,((cl.length-1-k:Nat):Int),(i:Int),(i:Int),w4),(Hq cs.length (W (cl.length-1-k)) (QW cs.length W cl.length k) i 0,0),(by and_intros<;>first|rfl|trivial|simp),?_⟩;refine LoopP.count2 3 (λt x=>x=Hq cs.length (W (cl.length-1-k)) (QW cs.length W cl.length k) i t) rfl ?_;rintro t _ ht rfl q2 nb;dsimp only;refine⟨λc=>?_,λc=>?_⟩
   .have ht:t<3:=by simp at c;omega
    have ld:=Ot hn (a:=(i:Int)) (s:=(t:Int)) (by omega) (by omega);have hl:=Vm cs.length W cl.length k;have mY:=S4 cs.length W cl.length k (nxC cs.length (i:Int) (t:Int)).toNat;have sR:=LW (t:Int);refine⟨⟨b1.1,b1.2,by omega,by omega,by omega,by omega,b4⟩,λc2=>?_,λc2=>?_⟩
    .rw[zq] at c2;refine⟨by omega,by rw[S8];omega,⟨b3,by omega,by omega,by omega,by omega,by omega⟩,ld.1,by rw[hl];exact ld.2,?_,by omega,by rw[S8];omega,by rw[Qn];omega,?_⟩
     .rw[Qn];show _<=ftC t+(QW cs.length W cl.length k).getD (nxC cs.length (i:Int) (t:Int)).toNat 0/\ftC t+(QW cs.length W cl.length k).getD (nxC cs.length (i:Int) (t:Int)).toNat 0<=_;omega
     .refine⟨(Hq cs.length (W (cl.length-1-k)) (QW cs.length W cl.length k) i (t+1),(t:Int)+1),?_,nb _ ht rfl⟩;have es:(Hq cs.length (W (cl.length-1-k)) (QW cs.length W cl.length k) i t).set i (B9 ((Hq cs.length (W (cl.length-1-k)) (QW cs.length W cl.length k) i t).getD i 0) (ftC t+(QW cs.length W cl.length k).getD (nxC cs.length (i:Int) (t:Int)).toNat 0))=Hq cs.length (W (cl.length-1-k)) (QW cs.length W cl.length k) i (t+1):=by
       rw[Q1g _ _ _ hi,<-Q1q];rw[show pvC cs.length (W (cl.length-1-k) (i:Int)) (QW cs.length W cl.length k) i (t+1)=if W (cl.length-1-k) (i:Int)=true then B9 (pvC cs.length (W (cl.length-1-k) (i:Int)) (QW cs.length W cl.length k) i t) (ftC t+(QW cs.length W cl.length k).getD (nxC cs.length i t).toNat 0) else pvC cs.length (W (cl.length-1-k) (i:Int)) (QW cs.length W cl.length k) i t from rfl,z7 c2]
      rw[zq];and_intros<;>first|rfl|trivial|exact es
    .rw[zq] at c2;refine⟨by rw[Qn];omega,(Hq cs.length (W (cl.length-1-k)) (QW cs.length W cl.length k) i (t+1),(t:Int)+1),?_,nb _ ht rfl⟩;have es:=I7 (n:=cs.length) (W (cl.length-1-k)) (QW cs.length W cl.length k) t c2;and_intros<;>first|rfl|trivial|exact es
   .obtain rfl:t=3:=by simp at c;omega
    refine⟨by rw[Qn];omega,(Hq cs.length (W (cl.length-1-k)) (QW cs.length W cl.length k) (i+1) 0,(i:Int)+1),?_,hq _ hi rfl⟩;have es:=Io cs.length (W (cl.length-1-k)) (QW cs.length W cl.length k) i;and_intros<;>first|rfl|trivial|exact es
  .obtain rfl:i=cs.length:=by simp at c;omega
   rw[Q1b];refine⟨by simp;omega,?_⟩;have e2:((List.range (k+1)).map λk=>QW cs.length W cl.length k)++[Q10 cs.length (W (cl.length-1-k)) (QW cs.length W cl.length k)]=(List.range (k+1+1)).map λk=>QW cs.length W cl.length k:=by rw[List.range_succ (n:=k+1),xN];rfl
   refine⟨rfl,(QW cs.length W cl.length (k+1),(List.range (k+1+1)).map λk=>QW cs.length W cl.length k),?_,hk,rfl⟩;and_intros<;>first|rfl|trivial|exact e2
 .rintro _ ⟨_,rfl⟩;dsimp only;refine⟨by simp;omega,?_⟩;and_intros<;>first|rfl|trivial
theorem MS:∀ {l m:List Nat},l.Nodup->(∀ x∈l,x∈m)->l.length<=m.length
 |[],_,_,_=>Nat.zero_le _
 |x::l,m,hn,hs=>by rw[xt] at hn;have hx:x∈m:=hs x (zu ..);have:=MS (l:=l) (m:=m.erase x) hn.2 λy hy=>(List.mem_erase_of_ne (by rintro rfl;exact hn.1 hy)).2 (hs y (zi _ hy));rw[List.length_erase_of_mem hx] at this;have:=List.length_pos_of_mem hx;rw[xh];omega
theorem Bt {dn:List Nat}{r:Nat}(h:dn.Nodup) (hr:r∉dn):(dn++[r]).Nodup :=
 List.nodup_append.2 ⟨h,List.pairwise_singleton _ _,λa ha b hb e=>by rw[zo] at hb;subst hb;subst e;exact hr ha⟩
theorem LoopP.rng {X:Type}{F:X×List Nat->(X×List Nat->Prop)->Prop}(n:Nat) (J:X->List Nat->Prop) {x0:X}(h0:J x0 [])
  (hr:∀ (x:X) (dn:List Nat),dn.Nodup->(∀ r∈dn,r<n)->J x dn->∀ q:X×List Nat->Prop,(∀ (r:Nat) (x':X),r<n->r∉dn->J x' (dn++[r])->q (x',dn++[r]))->F (x,dn) q):LoopP F (x0,[]):=by
 refine⟨λd=>d.2.Nodup/\(∀ r∈d.2,r<n)/\J d.1 d.2,λd=>n-d.2.length,⟨List.nodup_nil,(λr hr=>by cases hr),h0⟩,λ⟨x,dn⟩ ⟨h1,h2,h3⟩=>?_⟩;have h1:dn.Nodup:=h1;refine hr x dn h1 h2 h3 _ λr x' ah gm hJ=>?_;have hn:=Bt h1 gm;have hb:∀ y∈dn++[r],y<n:=λy hy=>by
  rcases zQ.1 hy with h|h
  .exact h2 y h
  .rw[zo] at h;omega
 refine⟨⟨hn,hb,hJ⟩,?_⟩;have:=MS hn (m:=List.range n) λy hy=>zD.2 (hb y hy);rw[wP,zI,xr] at this;have e:(dn++[r]).length=dn.length+1:=by simp
 show n-(dn++[r]).length<n-dn.length;omega
theorem Z59 {b e:Nat}(hb:b<=121) (he:e<=6):b ^ e<=3138428376721:=by
 have h1:b ^ e<=121 ^ e:=Nat.pow_le_pow_left hb e;have h2:121 ^ e<=121 ^ 6:=Nat.pow_le_pow_right (by omega) he;have h3:121 ^ 6=3138428376721:=by decide
 omega
theorem Z04 {n mo:Nat}(wv:Nat->Int->Bool) (hn:0<n) (ig:mo<=6) {k:Nat}(hk:k<=60) (q:Int×Int):0<=wyK n mo wv k q/\wyK n mo wv k q<=4000000000000000:=by
 refine⟨VN n mo wv k q,?_⟩;by_cases hz:wyK n mo wv k q=0
 .omega
 .have hg:=JI.1 (Se n mo wv hn k q hz);have h1:=AX (n:=n) (mo:=mo) wv hn k q hg.2.1;have h2:=Z59 (b:=2*k+1) (e:=q.2.toNat) (by omega) (by omega);omega
def Q5t (k:Nat) (q:Int×Int):Int:=if 0<=q.1/\q.1<(k:Int)/\q.2=0 then 1 else 0
theorem OU {n mo:Nat}{m:List ((Int×Int)×Int)}{k:Nat}(h:MapW n mo m (Q5t k)) (hk:k<n):MapW n mo (Mo m ((k:Int),0) 1) (Q5t (k+1)):=by
 have hg:XK m ((k:Int),0)=0:=by rw[h.get];unfold Q5t;rw[z8 (by dsimp only;omega)]
 have:=h.add (λq=>by unfold Q5t;split<;>omega) (k:=((k:Int),0)) (w:=1) (by omega) (by rw[JI];dsimp only;omega);rw[hg] at this;refine this.congr λq=>?_;unfold Q5t;by_cases e:q=((k:Int),0)
 .subst e;rw[z8 (by dsimp only;omega),z7 rfl,z7 (by dsimp only;omega)];rfl
 .rw[z8 e];have:¬ (q.1=k/\q.2=0):=λh=>e (Prod.ext h.1 h.2);by_cases c:0<=q.1/\q.1<(k:Int)/\q.2=0
  .rw[z7 c,z7 (by omega)];rfl
  .rw[z8 c,z8 (by omega)];rfl
def Q79 (n mo:Nat) (wv:Int->Bool) (m:List ((Int×Int)×Int)) (dn:List Nat) (q:Int×Int):Int:=(dn.map λr=>RS n mo wv (m.getD r ((0,0),0)).1 (m.getD r ((0,0),0)).2 q).sum
theorem Lh (n mo:Nat) (wv:Int->Bool) (m:List ((Int×Int)×Int)) (dn:List Nat) (r:Nat) (q:Int×Int):Q79 n mo wv m (dn++[r]) q=Q79 n mo wv m dn q+RS n mo wv (m.getD r ((0,0),0)).1 (m.getD r ((0,0),0)).2 q:=by unfold Q79;rw[Sn];simp
theorem Q3c {n mo:Nat}{wv:Nat->Int->Bool}{k:Nat}{m:List ((Int×Int)×Int)}(h:MapW n mo m (wyK n mo wv k)) {dn:List Nat}(hn:dn.Nodup) (ah:∀ r∈dn,r<m.length) (q:Int×Int) :
  0<=Q79 n mo (wv k) m dn q/\Q79 n mo (wv k) m dn q<=wyK n mo wv (k+1) q/\((∀ r,r<m.length->r∈dn)->Q79 n mo (wv k) m dn q=wyK n mo wv (k+1) q):=by
 have bq:∀ x∈m,0<=RS n mo (wv k) x.1 x.2 q:=λx hx=>GO (Int.le_of_lt (h.2.1 x hx).2.1);have h1:=CX (d:=(((0,0),0):(Int×Int)×Int)) (F:=λx=>RS n mo (wv k) x.1 x.2 q) hn ah bq;have h2:=PU h (λp w=>RS n mo (wv k) p w q) λp=>by
  unfold RS B8;split
  .split<;>split<;>split<;>rfl
  .rfl
 have e:wyK n mo wv (k+1) q=((Jd n mo).map λp=>RS n mo (wv k) p (wyK n mo wv k p) q).sum:=rfl;rw[e,<-h2];refine⟨K9 λr hr=>?_,h1.1,h1.2⟩;have:=ah r hr;rw[Qh this];exact bq _ (zp this)
def We:AL ((Int×(List (Int×Int×Bool))×Int×List Int)×Int):=(.cons (.agg (.cons (.k (.i .i64)) (.cons (.k (.list (.pair (.i .i64) (.pair (.i .i64) .bo)))) (.cons (.k (.i .i64)) (.one (.k (.list (.i .i64)))))))) (.one (.k (.i .i64))))
def UW (a:(Int×(List (Int×Int×Bool))×Int×List Int)×Int):Prop:=a.1.2.2.1=a.1.1/\QF a.1.1 a.1.2.1=0/\a.1.2.2.2.length<=60/\(∀ r∈a.1.2.2.2,-1<=r/\r<2 ^ a.1.1.toNat)/\0<=a.2/\a.2<=6
def UK (a:(Int×(List (Int×Int×Bool))×Int×List Int)×Int):List SV:=[]
def XZ (a:(Int×(List (Int×Int×Bool))×Int×List Int)×Int) (m:List ((Int×Int)×Int)):Prop:=MapW a.1.2.1.length a.2.toNat m (wyK a.1.2.1.length a.2.toNat (λk=>wvB a.1.1 a.1.2.1 a.1.2.2.2 k) a.1.2.2.2.length)
def JZ:XSp:=Q1z NF (.pair (.i .i64) (.i .i64)) (.i .i64) (Q7h We UW UK XZ)
abbrev Wl (hk:Int) (cs:List (Int×Int×Bool)) (f:Int) (cl:List Int):=(hk=hk/\cs=cs/\f=f/\cl=cl/\(([]:List SV)=[]))
def Zy (hk:Int) (cs:List (Int×Int×Bool)) (f:Int) (cl:List Int) (mo:Int):Prop :=
 ∃ (e3:Unit) (d30:(List ((Int×Int)×Int))×Int),((mo=mo/\True/\True/\(lI cs)=(lI cs)/\(0:Int)=d30.2/\True)/\((Wl hk cs f cl)/\(([]:List ((Int×Int)×Int))=d30.1)/\True)) /\
 LoopP (λ(d3:(List ((Int×Int)×Int))×Int) (q3:((List ((Int×Int)×Int))×Int)->Prop) =>
  ((decide (d3.2<(lI cs)))=true ->
   (I64 (d3.2+(1:Int)))/\(∃ d4:(List ((Int×Int)×Int))×Int,((mo=mo/\True/\True/\(lI cs)=(lI cs)/\(d3.2+(1:Int))=d4.2/\True)/\((Wl hk cs f cl)/\((TB (.pair (.i .i64) (.i .i64)) d3.1 (d3.2,(0:Int)) (1:Int))=d4.1)/\True))/\q3 d4)) /\
  ((decide (d3.2<(lI cs)))=false ->
   ∃ (e7:Unit) (d70:(List ((Int×Int)×Int))×Int),((mo=mo/\True/\True/\(lI cl)=(lI cl)/\(0:Int)=d70.2/\True)/\((Wl hk cs f cl)/\(d3.1=d70.1)/\True)) /\
   LoopP (λ(d7:(List ((Int×Int)×Int))×Int) (q7:((List ((Int×Int)×Int))×Int)->Prop) =>
    ((decide (d7.2<(lI cl)))=true ->
     ∃ (aD:Int×Int×(List ((Int×Int)×Int))) (d100:(List ((Int×Int)×Int))×(List Nat)),((mo=mo/\True/\d7.2=aD.1/\True/\(lI cl)=(lI cl)/\d7.2=aD.2.1/\True/\True)/\((Wl hk cs f cl)/\(([]:List ((Int×Int)×Int))=d100.1)/\(d7.1=aD.2.2/\([]:List Nat)=d100.2)/\True)) /\
     LoopP (λ(d10:(List ((Int×Int)×Int))×(List Nat)) (kD:((List ((Int×Int)×Int))×(List Nat))->Prop) =>
      ((∀ r:Nat,r<(List.length aD.2.2)->r∈d10.2) ->
       (false=true ->
        (d10.2≠[])/\(1<=f/\f<=24/\0<=aD.1/\aD.1<cl.length/\0<=((List.getD aD.2.2 (List.getLastD d10.2 0) ((0,0),0)).1.1)/\((List.getD aD.2.2 (List.getLastD d10.2 0) ((0,0),0)).1.1)<cs.length/\∀ c∈cs,QT f c=true)/\((wvB f cs cl aD.1.toNat ((List.getD aD.2.2 (List.getLastD d10.2 0) ((0,0),0)).1.1))=true ->
         (0<=((List.getD aD.2.2 (List.getLastD d10.2 0) ((0,0),0)).1.1)/\((List.getD aD.2.2 (List.getLastD d10.2 0) ((0,0),0)).1.1)<cs.length/\cs.length<=60/\0<=((List.getD aD.2.2 (List.getLastD d10.2 0) ((0,0),0)).1.2)/\((List.getD aD.2.2 (List.getLastD d10.2 0) ((0,0),0)).1.2)<=6/\0<=mo/\mo<=6/\0<=((List.getD aD.2.2 (List.getLastD d10.2 0) ((0,0),0)).2)/\((List.getD aD.2.2 (List.getLastD d10.2 0) ((0,0),0)).2)<=4000000000000000/\∀ q,0<=XK d10.1 q/\XK d10.1 q<=4000000000000000)/\(∀ sS:List ((Int×Int)×Int),(sS=Q7r cs.length mo (((List.getD aD.2.2 (List.getLastD d10.2 0) ((0,0),0)).1.1),((List.getD aD.2.2 (List.getLastD d10.2 0) ((0,0),0)).1.2)) ((List.getD aD.2.2 (List.getLastD d10.2 0) ((0,0),0)).2) d10.1)->(∃ d13:(List ((Int×Int)×Int))×(List Nat),((mo=mo/\True/\aD.1=aD.1/\True/\(lI cl)=(lI cl)/\aD.2.1=aD.2.1/\True/\True)/\((Wl hk cs f cl)/\(sS=d13.1)/\(aD.2.2=aD.2.2/\d10.2=d13.2)/\True))/\kD d13))) /\
        ((wvB f cs cl aD.1.toNat ((List.getD aD.2.2 (List.getLastD d10.2 0) ((0,0),0)).1.1))=false ->
         (∃ d14:(List ((Int×Int)×Int))×(List Nat),((mo=mo/\True/\aD.1=aD.1/\True/\(lI cl)=(lI cl)/\aD.2.1=aD.2.1/\True/\True)/\((Wl hk cs f cl)/\(d10.1=d14.1)/\(aD.2.2=aD.2.2/\d10.2=d14.2)/\True))/\kD d14))) /\
       (false=false ->
        (I64 (aD.2.1+(1:Int)))/\(∃ d15:(List ((Int×Int)×Int))×Int,((mo=mo/\True/\True/\(lI cl)=(lI cl)/\(aD.2.1+(1:Int))=d15.2/\True)/\((Wl hk cs f cl)/\(d10.1=d15.1)/\True))/\q7 d15))) /\
      (∀ fC:Nat,fC<(List.length aD.2.2)->fC∉d10.2 ->
       (true=true ->
        ((d10.2++[fC])≠[])/\(1<=f/\f<=24/\0<=aD.1/\aD.1<cl.length/\0<=((List.getD aD.2.2 (List.getLastD (d10.2++[fC]) 0) ((0,0),0)).1.1)/\((List.getD aD.2.2 (List.getLastD (d10.2++[fC]) 0) ((0,0),0)).1.1)<cs.length/\∀ c∈cs,QT f c=true)/\((wvB f cs cl aD.1.toNat ((List.getD aD.2.2 (List.getLastD (d10.2++[fC]) 0) ((0,0),0)).1.1))=true ->
         (0<=((List.getD aD.2.2 (List.getLastD (d10.2++[fC]) 0) ((0,0),0)).1.1)/\((List.getD aD.2.2 (List.getLastD (d10.2++[fC]) 0) ((0,0),0)).1.1)<cs.length/\cs.length<=60/\0<=((List.getD aD.2.2 (List.getLastD (d10.2++[fC]) 0) ((0,0),0)).1.2)/\((List.getD aD.2.2 (List.getLastD (d10.2++[fC]) 0) ((0,0),0)).1.2)<=6/\0<=mo/\mo<=6/\0<=((List.getD aD.2.2 (List.getLastD (d10.2++[fC]) 0) ((0,0),0)).2)/\((List.getD aD.2.2 (List.getLastD (d10.2++[fC]) 0) ((0,0),0)).2)<=4000000000000000/\∀ q,0<=XK d10.1 q/\XK d10.1 q<=4000000000000000)/\(∀ sU:List ((Int×Int)×Int),(sU=Q7r cs.length mo (((List.getD aD.2.2 (List.getLastD (d10.2++[fC]) 0) ((0,0),0)).1.1),((List.getD aD.2.2 (List.getLastD (d10.2++[fC]) 0) ((0,0),0)).1.2)) ((List.getD aD.2.2 (List.getLastD (d10.2++[fC]) 0) ((0,0),0)).2) d10.1)->(∃ d17:(List ((Int×Int)×Int))×(List Nat),((mo=mo/\True/\aD.1=aD.1/\True/\(lI cl)=(lI cl)/\aD.2.1=aD.2.1/\True/\True)/\((Wl hk cs f cl)/\(sU=d17.1)/\(aD.2.2=aD.2.2/\(d10.2++[fC])=d17.2)/\True))/\kD d17))) /\
        ((wvB f cs cl aD.1.toNat ((List.getD aD.2.2 (List.getLastD (d10.2++[fC]) 0) ((0,0),0)).1.1))=false ->
         (∃ d18:(List ((Int×Int)×Int))×(List Nat),((mo=mo/\True/\aD.1=aD.1/\True/\(lI cl)=(lI cl)/\aD.2.1=aD.2.1/\True/\True)/\((Wl hk cs f cl)/\(d10.1=d18.1)/\(aD.2.2=aD.2.2/\(d10.2++[fC])=d18.2)/\True))/\kD d18))) /\
       (true=false ->
        (I64 (aD.2.1+(1:Int)))/\(∃ d19:(List ((Int×Int)×Int))×Int,((mo=mo/\True/\True/\(lI cl)=(lI cl)/\(aD.2.1+(1:Int))=d19.2/\True)/\((Wl hk cs f cl)/\(d10.1=d19.1)/\True))/\q7 d19)))) d100) /\
    ((decide (d7.2<(lI cl)))=false ->
     (MapW cs.length mo.toNat d7.1 (wyK cs.length mo.toNat (λk=>wvB hk cs cl k) cl.length)))) d70)) d30
def WT:Cx:=⟨[(1000011,(.pair (.pair (.i .i64) (.i .i64)) (.i .i64))),(1000030,(.pair (.pair (.i .i64) (.i .i64)) (.i .i64)))],[(116,Zj)],52,[],0,[(145,X2)],[],[],[],false,[],[],[],[]⟩
def WE (hk:Int) (cs:List (Int×Int×Bool)) (f:Int) (cl:List Int) (mo:Int):List (Nat×LoopAnn):=[(0,⟨Unit,(List ((Int×Int)×Int))×Int,[1,2,5,16,17],λe x=>[.val (.i .i64) mo,.box 2 0,.map 11,.val (.i .i64) (((List.length cs):Nat):Int),.val (.i .i64) x.2],λe x=>[(2,.slot 2,.cells [.val (.i .i64) hk,.val (.list (.pair (.i .i64) (.pair (.i .i64) .bo))) cs,.val (.i .i64) f,.val (.list (.i .i64)) cl] (some 134)),(11,.slot 5,.map (.pair (.i .i64) (.i .i64)) (.i .i64) x.1)]⟩),
 (2,⟨Unit,(List ((Int×Int)×Int))×Int,[1,2,5,26,27],λe x=>[.val (.i .i64) mo,.box 2 0,.map 11,.val (.i .i64) (((List.length cl):Nat):Int),.val (.i .i64) x.2],λe x=>[(2,.slot 2,.cells [.val (.i .i64) hk,.val (.list (.pair (.i .i64) (.pair (.i .i64) .bo))) cs,.val (.i .i64) f,.val (.list (.i .i64)) cl] (some 134)),(11,.slot 5,.map (.pair (.i .i64) (.i .i64)) (.i .i64) x.1)]⟩),
 (4,⟨Int×Int×(List ((Int×Int)×Int)),(List ((Int×Int)×Int))×(List Nat),[1,2,7,8,26,27,32],λe x=>[.val (.i .i64) mo,.box 2 0,.val (.i .i64) e.1,.map 30,.val (.i .i64) (((List.length cl):Nat):Int),.val (.i .i64) e.2.1,.box 32 0],λe x=>[(2,.slot 2,.cells [.val (.i .i64) hk,.val (.list (.pair (.i .i64) (.pair (.i .i64) .bo))) cs,.val (.i .i64) f,.val (.list (.i .i64)) cl] (some 134)),(30,.slot 8,.map (.pair (.i .i64) (.i .i64)) (.i .i64) x.1),(32,.slot 32,.iter (.pair (.i .i64) (.i .i64)) (.i .i64) e.2.2 x.2)]⟩)]
theorem Nf (a:(Int×(List (Int×Int×Bool))×Int×List Int)×Int):gwp WT (WE a.1.1 a.1.2.1 a.1.2.2.1 a.1.2.2.2 a.2) Z1r 0 (Q6f [.tmp 4] (.pair (.i .i64) (.i .i64)) (.i .i64) (XZ a)) (YJ 52 (AL.can We a))=Zy a.1.1 a.1.2.1 a.1.2.2.1 a.1.2.2.2 a.2:=by kernel_rfl
abbrev Ng:Prop:=XOk Tryz.prog 118 JZ
theorem Nd (h:∀ (hk:Int) (cs:List (Int×Int×Bool)) (f:Int) (cl:List Int) (mo:Int),(f=hk/\QF hk cs=0/\cl.length<=60/\(∀ r∈cl,-1<=r/\r<2 ^ hk.toNat)/\0<=mo/\mo<=6)->Zy hk cs f cl mo):XOk Tryz.prog 118 JZ :=
 Q1r IW mixed Kv rfl (C:=WT) ⟨(.cons W4 .nil),(XsOk.cons Ux XsOk.nil),ItsOk.nil,YlOk.nil,IysOk.nil,XfOk.nil⟩ (L:=λ(a:(Int×(List (Int×Int×Bool))×Int×List Int)×Int)=>WE a.1.1 a.1.2.1 a.1.2.2.1 a.1.2.2.2 a.2) (V:=λ(a:(Int×(List (Int×Int×Bool))×Int×List Int)×Int)=>Zy a.1.1 a.1.2.1 a.1.2.2.1 a.1.2.2.2 a.2) Nf λa hp=>h a.1.1 a.1.2.1 a.1.2.2.1 a.1.2.2.2 a.2 hp
theorem Uz:Ng:=Nd λhk cs f cl mo h=>by
 obtain⟨h1,h2,h3,h4,h5,h6⟩:=h;subst h1;obtain⟨hf,b9,az,ai⟩:=Ua h2;have bq:=xx.2 az;unfold Zy;(try delta Wl);(try delta lI gD sT I64 ND pj8 pj4);refine⟨(),([],0),(by and_intros<;>first|rfl|trivial),?_⟩;refine LoopP.count2 cs.length (λk m=>MapW cs.length mo.toNat m (Q5t k)) ((MapW.nil _ _).congr λq=>by unfold Q5t;rw[z8 (by omega)]) ?_;intro k m hk hm q hq;dsimp only;refine⟨λg=>?_,λg=>?_⟩
 .have g:k<cs.length:=by have:=zP g;omega
  refine⟨by simp only[Qn];omega,(Mo m ((k:Int),0) 1,(k:Int)+1),(by and_intros<;>first|rfl|trivial),hq _ g (OU hm g)⟩
 .have g:k=cs.length:=by have:=x7 g;omega
  subst g;refine⟨(),(m,0),(by and_intros<;>first|rfl|trivial),?_⟩;refine LoopP.count2 cl.length (λk m=>MapW cs.length mo.toNat m (wyK cs.length mo.toNat (λk=>wvB f cs cl k) k)) (hm.congr λq=>rfl) ?_;clear hm hq;intro k m hk hm q hq;dsimp only;refine⟨λg=>?_,λg=>?_⟩
  .have g:k<cl.length:=by have:=zP g;omega
   refine⟨((k:Int),(k:Int),m),([],[]),(by and_intros<;>first|rfl|trivial),?_⟩;refine LoopP.rng m.length (λx dn=>MapW cs.length mo.toNat x (Q79 cs.length mo.toNat (wvB f cs cl k) m dn)) ((MapW.nil _ _).congr λq=>rfl) ?_;intro x dn hn ah hx q' cO;dsimp only;refine⟨λae=>⟨(λc=>by cases c),λ_=>⟨by simp only[Qn];omega,(x,(k:Int)+1),(by and_intros<;>first|rfl|trivial),hq _ g ?_⟩⟩,λr hr gm=>⟨λ_=>?_,(λc=>by cases c)⟩⟩
   .exact hx.congr λq=>(Q3c (wv:=λk=>wvB f cs cl k) hm hn ah q).2.2 ae
   .have er:List.getLastD (dn++[r]) 0=r:=by simp
    have aN:m[r]∈m:=zp hr;have he:=hm.2.1 _ aN;have mJ:=JI.1 he.2.2;have hW:=Z04 (n:=cs.length) (mo:=mo.toNat) (λk=>wvB f cs cl k) bq (by omega) (k:=k) (by omega) m[r].1;have o_:=λq=>Q3c (wv:=λk=>wvB f cs cl k) hm hn ah q;have rN:=λq=>Z04 (n:=cs.length) (mo:=mo.toNat) (λk=>wvB f cs cl k) bq (by omega) (k:=k+1) (by omega) q;simp only[er,Qh hr,zq];refine⟨by simp,⟨hf.1,hf.2,by omega,by omega,mJ.1.1,mJ.1.2,ai⟩,λc=>⟨⟨mJ.1.1,mJ.1.2,b9,mJ.2.1,by omega,h5,h6,by omega,by omega,λq=>?_⟩,λm' ng=>⟨(m',dn++[r]),(by and_intros<;>first|rfl|trivial),cO r m' hr gm ?_⟩⟩,λc=>⟨(x,dn++[r]),(by and_intros<;>first|rfl|trivial),cO r x hr gm ?_⟩⟩
    .rw[hx.get q];have:=o_ q;have:=rN q;omega
    .subst ng;have ig:((mo.toNat:Nat):Int)=mo:=by omega
     have:=Q8v hx (λq=>(o_ q).1) (p:=m[r].1) (w:=m[r].2) he.2.1 bq ⟨mJ.1.1,mJ.2.1⟩;rw[ig] at this;refine MapW.congr this λq=>?_;rw[Lh,Qh hr];unfold RS;rw[z7 c,ig]
    .refine hx.congr λq=>?_;rw[Lh,Qh hr];unfold RS;rw[z8 (by rw[c];decide)];omega
  .have g:k=cl.length:=by have:=x7 g;omega
   subst g;exact hm
def Tr (hk:Int) (cs:List V8) (cl:List Int) (fa:Int):Int:=((Jd cs.length fa.toNat).map (wyK cs.length fa.toNat (λk=>wvB hk cs cl k) cl.length)).sum
theorem Q0q (n mo:Nat):(Jd n mo).length=n*(mo+1):=by
 unfold Jd;rw[List.length_flatMap];have:(λ(a:Nat)=>((List.range (mo+1)).map λ(f:Nat)=>(((a:Int),(f:Int)):Int×Int)).length)=λ_=>mo+1:=by funext a;simp
 rw[this];induction n with
 |zero=>simp
 |succ n ih=>rw[List.range_succ,xN,List.sum_append,ih];simp[Nat.succ_mul]
theorem Is {α:Type}{f:α->Int}{B:Int}:∀ {l:List α},(∀ x∈l,f x<=B)->(l.map f).sum<=l.length*B
 |[],_=>by simp
 |x::l,h=>by
  have h1:=h x (zu ..);have h2:=Is (l:=l) λy hy=>h y (zi _ hy);rw[zJ,xI,xh];have:((l.length+1:Nat):Int)*B=l.length*B+B:=by rw[Int.natCast_add,Int.add_mul];simp
  omega
theorem Z0p {n mo:Nat}(wv:Nat->Int->Bool) (hn:0<n) (dQ:n<=60) (ig:mo<=6) {k:Nat}(hk:k<=60):((Jd n mo).map (wyK n mo wv k)).sum<=420*3138428376721:=by
 have h1:=Is (l:=Jd n mo) (f:=wyK n mo wv k) (B:=3138428376721) λq hq=>by have hg:=JI.1 hq;have h1:=AX (n:=n) (mo:=mo) wv hn k q hg.2.1;have h2:=Z59 (b:=2*k+1) (e:=q.2.toNat) (by omega) (by omega);omega
 rw[Q0q] at h1;have:n*(mo+1)<=60*7:=Nat.mul_le_mul dQ (by omega);have:((n*(mo+1):Nat):Int)*3138428376721<=420*3138428376721:=Int.mul_le_mul_of_nonneg_right (by omega) (by omega);omega
def Ms:AL ((Int×List (Int×Int×Bool))×List Int×Int):=(.cons (.agg (.cons (.k (.i .i64)) (.one (.k (.list (.pair (.i .i64) (.pair (.i .i64) .bo))))))) (.cons (.k (.list (.i .i64))) (.one (.k (.i .i64)))))
def HR (a:(Int×List (Int×Int×Bool))×List Int×Int):Prop:=QF a.1.1 a.1.2=0/\a.2.1.length<=60/\(∀ r∈a.2.1,-1<=r/\r<2 ^ a.1.1.toNat)/\0<=a.2.2/\a.2.2<=6
def Mr (a:(Int×List (Int×Int×Bool))×List Int×Int):List SV:=[.val (.i .i64) (0:Int)]
def N5 (a:(Int×List (Int×Int×Bool))×List Int×Int) (m:List ((Int×Int)×Int)):Prop:=MapW a.1.2.length a.2.2.toNat m (wyK a.1.2.length a.2.2.toNat (λk=>wvB a.1.1 a.1.2 a.2.1 k) a.2.1.length)
def K2:XSp:=Q05 NF (.pair (.i .i64) (.i .i64)) (.i .i64) (Q7h Ms HR Mr N5)
def Yb (hk:Int) (cs:List (Int×Int×Bool)) (cl:List Int) (fa:Int):Prop :=
 ∀ w1:List Value,∀ w2:List Value,(True)/\((!(inI hk 1 24))=true ->
  w2=w2/\w1=w1/\False) /\
 ((!(inI hk 1 24))=false ->
  ((decide ((lI cs) > (60:Int)))=true ->
   w2=w2/\w1=w1/\False) /\
  ((decide ((lI cs) > (60:Int)))=false ->
   (1<=hk/\hk<=24/\cs.length<=1000000)/\((!(!cs.isEmpty&&!(cs.any λc=>!QT hk c)))=true ->
    w2=w2/\w1=w1/\False) /\
   ((!(!cs.isEmpty&&!(cs.any λc=>!QT hk c)))=false ->
    w2=w2/\((decide ((lI cl) > (60:Int)))=true ->
     w1=w1/\False) /\
    ((decide ((lI cl) > (60:Int)))=false ->
     (cl.length<=1000000/\∀ x∈cl,(λ(x1:Int)=>1<=hk/\hk<=24) x)/\((cl.any (λ(x1:Int)=>(decide (x1≠-1)&&!inI x1 0 (2 ^ hk.toNat-1))))=true ->
      w1=w1/\False) /\
     ((cl.any (λ(x1:Int)=>(decide (x1≠-1)&&!inI x1 0 (2 ^ hk.toNat-1))))=false ->
      w1=w1/\([fa].length<=1000000)/\((!(!([fa].any λn=>decide (n<(0:Int))||decide ((6:Int)<n))))=true ->
       False) /\
      ((!(!([fa].any λn=>decide (n<(0:Int))||decide ((6:Int)<n))))=false ->
       (hk=hk/\QF hk cs=0/\cl.length<=60/\(∀ r∈cl,-1<=r/\r<2 ^ hk.toNat)/\0<=fa/\fa<=6)/\(∀ m3:List ((Int×Int)×Int),(MapW cs.length fa.toNat m3 (wyK cs.length fa.toNat (λk=>wvB hk cs cl k) cl.length))->(((0:Int)=(0:Int)/\(([]:List SV)=[]))/\(MapW cs.length fa.toNat m3 (wyK cs.length fa.toNat (λk=>wvB hk cs cl k) cl.length))))))))))
def J7:Cx:=⟨[],[(87,QU),(86,QM),(113,Qt),(112,ZS)],33,[3000017],0,[(103,Vg)],[],[],[],false,[],[],[17],[]⟩
def J5:List (Nat×LoopAnn):=[]
def G4:Cx:=⟨[(3,(.i .i64))],[(88,J0)],28,[3000016],0,[(73,Q0f J7 (λ_=>J5) c73 [.cell 4 true 4,.tmp 5] 33),(118,JZ)],[],[],[],false,[],[],[16],[]⟩
def Gm (hk:Int) (cs:List (Int×Int×Bool)) (cl:List Int) (fa:Int):List (Nat×LoopAnn):=[]
theorem Ty (a:(Int×List (Int×Int×Bool))×List Int×Int):gwp G4 (Gm a.1.1 a.1.2 a.2.1 a.2.2) c79 0 (Q5p [.tmp 6,.tmp 7] (.pair (.i .i64) (.i .i64)) (.i .i64) (Mr a) (N5 a)) (YJ 28 (AL.can Ms a))=Yb a.1.1 a.1.2 a.2.1 a.2.2:=by kernel_rfl
abbrev Tw:Prop:=XOk Tryz.prog 79 K2
theorem Tt (h:∀ (hk:Int) (cs:List (Int×Int×Bool)) (cl:List Int) (fa:Int),(QF hk cs=0/\cl.length<=60/\(∀ r∈cl,-1<=r/\r<2 ^ hk.toNat)/\0<=fa/\fa<=6)->Yb hk cs cl fa):XOk Tryz.prog 79 K2 :=
 OS Q77 mixed Kv rfl (C:=G4) ⟨(.cons X1 .nil),(XsOk.cons (M1 Q0y mixed (C:=J7) ⟨(.cons Zx (.cons Ze (.cons Z4 (.cons WC .nil)))),(XsOk.cons Vy XsOk.nil),ItsOk.nil,YlOk.nil,IysOk.nil,XfOk.nil⟩ (λ_=>J5)) (XsOk.cons Uz XsOk.nil)),ItsOk.nil,YlOk.nil,IysOk.nil,XfOk.nil⟩ (L:=λ(a:(Int×List (Int×Int×Bool))×List Int×Int)=>Gm a.1.1 a.1.2 a.2.1 a.2.2) (V:=λ(a:(Int×List (Int×Int×Bool))×List Int×Int)=>Yb a.1.1 a.1.2 a.2.1 a.2.2) Ty λa hp=>h a.1.1 a.1.2 a.2.1 a.2.2 hp
theorem NY:Tw:=Tt λhk cs cl fa h=>by
 obtain⟨h1,h2,h3,h4,h5⟩:=h;obtain⟨hf,b9,az,ai⟩:=Ua h1;unfold Yb;(try delta lI gD sT I64 ND pj8 pj4);have c1:(!inI hk 1 24)=false:=by simp only[inI,xm,z6,zm];omega
 have c2:(!(!cs.isEmpty&&!(cs.any λc=>!QT hk c)))=false:=by
  have e1:cs.isEmpty=false:=by cases cs with|nil=>exact(az rfl).elim|cons _ _=>rfl
  have e2:(cs.any λc=>!QT hk c)=false:=xD.2 λc hc=>by rw[ai c hc];decide
  rw[e1,e2];rfl
 have c3:(cl.any λx=>(decide (x≠-1)&&!inI x 0 (2 ^ hk.toNat-1)))=false:=xD.2 λx hx=>by
  have:=h3 x hx;by_cases e:x=-1
  .simp[e]
  .have e2:inI x 0 (2 ^ hk.toNat-1)=true:=by
    simp only[inI,z6,zm];omega
   rw[e2];simp
 have c4:(!(!([fa].any λn=>decide (n<(0:Int))||decide ((6:Int)<n))))=false:=by simp only[List.any_cons,List.any_nil,xY,Bool.not_not,Bool.or_eq_false_iff,xA];omega
 have d1:decide ((((List.length cs):Nat):Int) > (60:Int))=false:=xK (by omega);have d2:decide ((((List.length cl):Nat):Int) > (60:Int))=false:=xK (by omega);intro w1 w2;rw[c1,c2,c3,c4,d1,d2];refine⟨trivial,(λc=>by cases c),λ_=>⟨(λc=>by cases c),λ_=>⟨⟨hf.1,hf.2,by omega⟩,(λc=>by cases c),λ_=>⟨rfl,(λc=>by cases c),λ_=>⟨⟨by omega,λ_ _=>hf⟩,(λc=>by cases c),λ_=>⟨rfl,by simp,(λc=>by cases c),λ_=>⟨⟨rfl,h1,h2,h3,h4,h5⟩,λm hm=>⟨(by and_intros<;>first|rfl|trivial|simp),hm⟩⟩⟩⟩⟩⟩⟩⟩
def Dn:AL ((Int×List (Int×Int×Bool))×List Int×Int):=(.cons (.agg (.cons (.k (.i .i64)) (.one (.k (.list (.pair (.i .i64) (.pair (.i .i64) .bo))))))) (.cons (.k (.list (.i .i64))) (.one (.k (.i .i64)))))
def Tn (d:(Int×List (Int×Int×Bool))×List Int×Int):Prop:=QF d.1.1 d.1.2=0/\d.2.1.length<=60/\(∀ r∈d.2.1,-1<=r/\r<2 ^ d.1.1.toNat)/\0<=d.2.2/\d.2.2<=6
def Ga (d:(Int×List (Int×Int×Bool))×List Int×Int):SV:=.tup [.val (.i .i64) (Tr d.1.1 d.1.2 d.2.1 d.2.2),.val (.i .i64) (0:Int)]
def Gi (d:(Int×List (Int×Int×Bool))×List Int×Int):List OB:=[]
def V7:CSp:=V5 Dn Tn Ga Gi
def K3 (hk:Int) (cs:List (Int×Int×Bool)) (cl:List Int) (fa:Int):Prop :=
 (QF hk cs=0/\cl.length<=60/\(∀ r∈cl,-1<=r/\r<2 ^ hk.toNat)/\0<=fa/\fa<=6)/\(∀ m1:List ((Int×Int)×Int),(MapW cs.length fa.toNat m1 (wyK cs.length fa.toNat (λk=>wvB hk cs cl k) cl.length))->∃ (e4:(List ((Int×Int)×Int))) (d40:Int×(List Nat)),(((0:Int)=d40.1/\(0:Int)=(0:Int)/\True/\True)/\((m1=e4/\([]:List Nat)=d40.2)/\True)) /\
 LoopP (λ(d4:Int×(List Nat)) (q4:(Int×(List Nat))->Prop) =>
  ((∀ r:Nat,r<(List.length e4)->r∈d4.2) ->
   (false=true ->
    (d4.2≠[])/\(I64 (d4.1+(List.getD e4 (List.getLastD d4.2 0) ((0,0),0)).2))/\(∃ d6:Int×(List Nat),(((d4.1+(List.getD e4 (List.getLastD d4.2 0) ((0,0),0)).2)=d6.1/\(0:Int)=(0:Int)/\True/\True)/\((e4=e4/\d4.2=d6.2)/\True))/\q4 d6)) /\
   (false=false ->
    ((d4.1=(Tr hk cs cl fa)/\(0:Int)=(0:Int)/\(([]:List SV)=[]))/\(True)))) /\
  (∀ r5:Nat,r5<(List.length e4)->r5∉d4.2 ->
   (true=true ->
    ((d4.2++[r5])≠[])/\(I64 (d4.1+(List.getD e4 (List.getLastD (d4.2++[r5]) 0) ((0,0),0)).2))/\(∃ d7:Int×(List Nat),(((d4.1+(List.getD e4 (List.getLastD (d4.2++[r5]) 0) ((0,0),0)).2)=d7.1/\(0:Int)=(0:Int)/\True/\True)/\((e4=e4/\(d4.2++[r5])=d7.2)/\True))/\q4 d7)) /\
   (true=false ->
    ((d4.1=(Tr hk cs cl fa)/\(0:Int)=(0:Int)/\(([]:List SV)=[]))/\(True))))) d40)
def DI:Cx:=⟨[],[],29,[],0,[(79,K2)],[],[],[],false,[],[],[],[]⟩
def Ry (hk:Int) (cs:List (Int×Int×Bool)) (cl:List Int) (fa:Int):List (Nat×LoopAnn):=[(0,⟨(List ((Int×Int)×Int)),Int×(List Nat),[6,7,19],λe x=>[.val (.i .i64) x.1,.val (.i .i64) (0:Int),.box 19 0],λe x=>[(19,.slot 19,.iter (.pair (.i .i64) (.i .i64)) (.i .i64) e x.2)]⟩)]
theorem Rx (d:(Int×List (Int×Int×Bool))×List Int×Int):gwp (DI) (Ry d.1.1 d.1.2 d.2.1 d.2.2) c27 0 (VF [.tmp 6,.tmp 7] (Ga d) (Gi d)) (Qx 29 (AL.can Dn d))=K3 d.1.1 d.1.2 d.2.1 d.2.2:=by kernel_rfl
abbrev S7:Prop:=OkC Tryz.prog 27 V7
theorem Si (h:∀ (hk:Int) (cs:List (Int×Int×Bool)) (cl:List Int) (fa:Int),(QF hk cs=0/\cl.length<=60/\(∀ r∈cl,-1<=r/\r<2 ^ hk.toNat)/\0<=fa/\fa<=6)->K3 hk cs cl fa):OkC Tryz.prog 27 V7 :=
 Z5 Q5f mixed (C:=DI) (V:=λ(d:(Int×List (Int×Int×Bool))×List Int×Int)=>K3 d.1.1 d.1.2 d.2.1 d.2.2) ⟨.nil,(XsOk.cons NY XsOk.nil),ItsOk.nil,YlOk.nil,IysOk.nil,XfOk.nil⟩ (Rx) λd hp=>h d.1.1 d.1.2 d.2.1 d.2.2 hp
theorem GZ:S7:=Si λhk cs cl fa h=>by
 obtain⟨h1,h2,h3,h4,h5⟩:=id h;obtain⟨hf,b9,az,ai⟩:=Ua h1;have bq:=xx.2 az;unfold K3;(try delta lI gD sT I64 ND pj8 pj4);refine⟨h,λm hm=>⟨m,(0,[]),(by and_intros<;>first|rfl|trivial),?_⟩⟩;refine LoopP.rng m.length (λs dn=>s=(dn.map λr=>(m.getD r ((0,0),0)).2).sum) rfl ?_;intro s dn hn ah hs q hq;dsimp only;have hp:∀ x∈m,0<=(λx:(Int×Int)×Int=>x.2) x:=λx hx=>Int.le_of_lt (hm.2.1 x hx).2.1;have jd:=PU hm (λ_ w=>w) λ_=>rfl;have hb:=Z0p (n:=cs.length) (mo:=fa.toNat) (λk=>wvB hk cs cl k) bq (by omega) (by omega) (k:=cl.length) (by omega);have hV:(m.map λx=>x.2).sum=Tr hk cs cl fa:=jd;have wi:Tr hk cs cl fa<=420*3138428376721:=hb;have ez:=λ(dn:List Nat) (hn:dn.Nodup) (ah:∀ r∈dn,r<m.length)=>CX (d:=(((0,0),0):(Int×Int)×Int)) (F:=λx=>x.2) hn ah hp;refine⟨λae=>⟨(λc=>by cases c),λ_=>⟨⟨?_,rfl,rfl⟩,trivial⟩⟩,λr hr gm=>⟨λ_=>?_,(λc=>by cases c)⟩⟩
 .rw[hs,<-hV];exact(ez dn hn ah).2 ae
 .have er:List.getLastD (dn++[r]) 0=r:=by simp
  have aY:s+(m.getD r ((0,0),0)).2=((dn++[r]).map λr=>(m.getD r ((0,0),0)).2).sum:=by rw[hs,Sn];simp
  simp only[er];have aN:=λy (hy:y∈dn++[r])=>show y<m.length from (zQ.1 hy).elim (ah y) λh=>by rw[zo] at h;omega
  have hle:=(ez (dn++[r]) (Bt hn gm) aN).1;have bj:0<=((dn++[r]).map λr=>(m.getD r ((0,0),0)).2).sum:=K9 λy hy=>by have:=aN y hy;rw[Qh this];exact hp _ (zp this)
  refine⟨by simp,?_,(s+(m.getD r ((0,0),0)).2,dn++[r]),(by and_intros<;>first|rfl|trivial),hq r _ hr gm aY⟩;simp only[Qn];rw[aY];omega
def Mf:AL ((Int×List (Int×Int×Bool))×List Int):=(.cons (.agg (.cons (.k (.i .i64)) (.one (.k (.list (.pair (.i .i64) (.pair (.i .i64) .bo))))))) (.one (.k (.list (.i .i64)))))
def Hg (d:(Int×List (Int×Int×Bool))×List Int):Prop:=QF d.1.1 d.1.2=0/\d.2.length<=60/\(∀ r∈d.2,-1<=r/\r<2 ^ d.1.1.toNat)
def N4 (d:(Int×List (Int×Int×Bool))×List Int):SV:=.tup [.val (.i .i64) (Y7 d.1.1 d.1.2 d.2),.lst 0,.val (.i .i64) (G0 d.1.1 d.1.2 d.2),.val (.i .i64) (V0 d.1.1 d.1.2 d.2)]
def UY (d:(Int×List (Int×Int×Bool))×List Int):List OB:=[.lst 3 (.i .i64) (Ui d.1.1 d.1.2 d.2) ((Ui d.1.1 d.1.2 d.2).isEmpty)]
def Vt:CSp:=V5 Mf Hg N4 UY
def Ws (hk:Int) (cs:List (Int×Int×Bool)) (cl:List Int):Prop :=
 ∀ w1:List Value,∀ w2:List Value,(True)/\((!(inI hk 1 24))=true ->
  w2=w2/\w1=w1/\(((0:Int)=(Y7 hk cs cl)/\True/\(0:Int)=(G0 hk cs cl)/\(3:Int)=(V0 hk cs cl)/\(([]:List SV)=[]))/\(((Ui hk cs cl)=[]/\(Ui hk cs cl).isEmpty=true)/\True))) /\
 ((!(inI hk 1 24))=false ->
  ((decide ((lI cs) > (60:Int)))=true ->
   w2=w2/\w1=w1/\(((0:Int)=(Y7 hk cs cl)/\True/\(0:Int)=(G0 hk cs cl)/\(5:Int)=(V0 hk cs cl)/\(([]:List SV)=[]))/\(((Ui hk cs cl)=[]/\(Ui hk cs cl).isEmpty=true)/\True))) /\
  ((decide ((lI cs) > (60:Int)))=false ->
   (1<=hk/\hk<=24/\cs.length<=1000000)/\((!(!cs.isEmpty&&!(cs.any λc=>!QT hk c)))=true ->
    w2=w2/\w1=w1/\(((0:Int)=(Y7 hk cs cl)/\True/\(0:Int)=(G0 hk cs cl)/\(2:Int)=(V0 hk cs cl)/\(([]:List SV)=[]))/\(((Ui hk cs cl)=[]/\(Ui hk cs cl).isEmpty=true)/\True))) /\
   ((!(!cs.isEmpty&&!(cs.any λc=>!QT hk c)))=false ->
    w2=w2/\((decide ((lI cl) > (60:Int)))=true ->
     w1=w1/\(((0:Int)=(Y7 hk cs cl)/\True/\(0:Int)=(G0 hk cs cl)/\(5:Int)=(V0 hk cs cl)/\(([]:List SV)=[]))/\(((Ui hk cs cl)=[]/\(Ui hk cs cl).isEmpty=true)/\True))) /\
    ((decide ((lI cl) > (60:Int)))=false ->
     (cl.length<=1000000/\∀ x∈cl,(λ(x1:Int)=>1<=hk/\hk<=24) x)/\((cl.any (λ(x1:Int)=>(decide (x1≠-1)&&!inI x1 0 (2 ^ hk.toNat-1))))=true ->
      w1=w1/\(((0:Int)=(Y7 hk cs cl)/\True/\(0:Int)=(G0 hk cs cl)/\(2:Int)=(V0 hk cs cl)/\(([]:List SV)=[]))/\(((Ui hk cs cl)=[]/\(Ui hk cs cl).isEmpty=true)/\True))) /\
     ((cl.any (λ(x1:Int)=>(decide (x1≠-1)&&!inI x1 0 (2 ^ hk.toNat-1))))=false ->
      w1=w1/\(hk=hk/\QF hk cs=0/\cl.length<=60/\(∀ r∈cl,-1<=r/\r<2 ^ hk.toNat))/\(0<=(0:Int))/\((0:Int)<(List.length (Qg hk cs cl)))/\((gD (Qg hk cs cl) (0:Int) [])≠[]/\(gD (Qg hk cs cl) (0:Int) []).length<=1000000)/\((decide ((Zl (gD (Qg hk cs cl) (0:Int) []))>=(1048576:Int)))=true ->
       (((0:Int)=(Y7 hk cs cl)/\True/\(0:Int)=(G0 hk cs cl)/\(7:Int)=(V0 hk cs cl)/\(([]:List SV)=[]))/\(((Ui hk cs cl)=[]/\(Ui hk cs cl).isEmpty=true)/\True))) /\
      ((decide ((Zl (gD (Qg hk cs cl) (0:Int) []))>=(1048576:Int)))=false ->
       (0<=(0:Int))/\((0:Int)<(List.length (Qg hk cs cl)))/\((gD (Qg hk cs cl) (0:Int) []).length<=1000000)/\∃ (e6:Unit) (d60:(List Int)×Int×Int),(((GX (gD (Qg hk cs cl) (0:Int) []) (λy=>decide (y=(Zl (gD (Qg hk cs cl) (0:Int) [])))))=(GX (gD (Qg hk cs cl) (0:Int) []) (λy=>decide (y=(Zl (gD (Qg hk cs cl) (0:Int) [])))))/\True/\(Zl (gD (Qg hk cs cl) (0:Int) []))=(Zl (gD (Qg hk cs cl) (0:Int) []))/\True/\True/\(GX (gD (Qg hk cs cl) (0:Int) []) (λy=>decide (y=(Zl (gD (Qg hk cs cl) (0:Int) [])))))=d60.2.1/\(lI cl)=(lI cl)/\(0:Int)=d60.2.2/\True)/\((d60.1=[]/\(List.isEmpty d60.1)=true)/\(hk=hk/\cs=cs/\hk=hk/\cl=cl/\(([]:List SV)=[]))/\((Qg hk cs cl)=(Qg hk cs cl)/\false=false)/\True)) /\
       LoopP (λ(d6:(List Int)×Int×Int) (q6:((List Int)×Int×Int)->Prop) =>
        ((decide (d6.2.2<(lI cl)))=true ->
         ∃ (e9:(List Int)×Int×Int×Int) (d90:Int),(((GX (gD (Qg hk cs cl) (0:Int) []) (λy=>decide (y=(Zl (gD (Qg hk cs cl) (0:Int) [])))))=(GX (gD (Qg hk cs cl) (0:Int) []) (λy=>decide (y=(Zl (gD (Qg hk cs cl) (0:Int) [])))))/\True/\(Zl (gD (Qg hk cs cl) (0:Int) []))=(Zl (gD (Qg hk cs cl) (0:Int) []))/\True/\True/\d6.2.1=e9.2.1/\d6.2.2=e9.2.2.1/\(0:Int)=d90/\(lI cl)=(lI cl)/\d6.2.2=e9.2.2.2/\True)/\((d6.1=e9.1/\(List.isEmpty d6.1)=(List.isEmpty e9.1))/\(hk=hk/\cs=cs/\hk=hk/\cl=cl/\(([]:List SV)=[]))/\((Qg hk cs cl)=(Qg hk cs cl)/\false=false)/\True)) /\
         LoopP (λ(d9:Int) (q9:(Int)->Prop) =>
          (True)/\(I64 (e9.2.2.1+(1:Int)))/\(0<=(e9.2.2.1+(1:Int)))/\((e9.2.2.1+(1:Int))<(List.length (Qg hk cs cl)))/\(cs≠[]/\cs.length<=1000/\-1000000<=e9.2.1/\e9.2.1<=1000000/\-1000000<=d9/\d9<=1000000)/\(0<=(Int.tmod (e9.2.1+d9) cs.length))/\((Int.tmod (e9.2.1+d9) cs.length)<(List.length (gD (Qg hk cs cl) (e9.2.2.1+(1:Int)) [])))/\(I64 ((if d9=1 then 0 else 1)+(gD (gD (Qg hk cs cl) (e9.2.2.1+(1:Int)) []) (Int.tmod (e9.2.1+d9) cs.length) 0)))/\(0<=e9.2.2.1)/\(e9.2.2.1<(List.length (Qg hk cs cl)))/\(0<=e9.2.1)/\(e9.2.1<(List.length (gD (Qg hk cs cl) e9.2.2.1 [])))/\((((if d9=1 then 0 else 1)+(gD (gD (Qg hk cs cl) (e9.2.2.1+(1:Int)) []) (Int.tmod (e9.2.1+d9) cs.length) 0)) != (gD (gD (Qg hk cs cl) e9.2.2.1 []) e9.2.1 0))=true ->
           (I64 (d9+(1:Int)))/\(∃ d10:Int,(((GX (gD (Qg hk cs cl) (0:Int) []) (λy=>decide (y=(Zl (gD (Qg hk cs cl) (0:Int) [])))))=(GX (gD (Qg hk cs cl) (0:Int) []) (λy=>decide (y=(Zl (gD (Qg hk cs cl) (0:Int) [])))))/\True/\(Zl (gD (Qg hk cs cl) (0:Int) []))=(Zl (gD (Qg hk cs cl) (0:Int) []))/\True/\True/\e9.2.1=e9.2.1/\e9.2.2.1=e9.2.2.1/\(d9+(1:Int))=d10/\(lI cl)=(lI cl)/\e9.2.2.2=e9.2.2.2/\True)/\((e9.1=e9.1/\(List.isEmpty e9.1)=(List.isEmpty e9.1))/\(hk=hk/\cs=cs/\hk=hk/\cl=cl/\(([]:List SV)=[]))/\((Qg hk cs cl)=(Qg hk cs cl)/\false=false)/\True))/\q9 d10)) /\
          ((((if d9=1 then 0 else 1)+(gD (gD (Qg hk cs cl) (e9.2.2.1+(1:Int)) []) (Int.tmod (e9.2.1+d9) cs.length) 0)) != (gD (gD (Qg hk cs cl) e9.2.2.1 []) e9.2.1 0))=false ->
           (((List.length e9.1)+(List.length [d9]))*8<=70368744177664)/\(cs≠[]/\cs.length<=1000/\-1000000<=e9.2.1/\e9.2.1<=1000000/\-1000000<=d9/\d9<=1000000)/\(I64 (e9.2.2.2+(1:Int)))/\(∃ d11:(List Int)×Int×Int,(((GX (gD (Qg hk cs cl) (0:Int) []) (λy=>decide (y=(Zl (gD (Qg hk cs cl) (0:Int) [])))))=(GX (gD (Qg hk cs cl) (0:Int) []) (λy=>decide (y=(Zl (gD (Qg hk cs cl) (0:Int) [])))))/\True/\(Zl (gD (Qg hk cs cl) (0:Int) []))=(Zl (gD (Qg hk cs cl) (0:Int) []))/\True/\True/\(Int.tmod (e9.2.1+d9) cs.length)=d11.2.1/\(lI cl)=(lI cl)/\(e9.2.2.2+(1:Int))=d11.2.2/\True)/\(((e9.1++[d9])=d11.1/\false=(List.isEmpty d11.1))/\(hk=hk/\cs=cs/\hk=hk/\cl=cl/\(([]:List SV)=[]))/\((Qg hk cs cl)=(Qg hk cs cl)/\false=false)/\True))/\q6 d11))) d90) /\
        ((decide (d6.2.2<(lI cl)))=false ->
         (((GX (gD (Qg hk cs cl) (0:Int) []) (λy=>decide (y=(Zl (gD (Qg hk cs cl) (0:Int) [])))))=(Y7 hk cs cl)/\True/\(Zl (gD (Qg hk cs cl) (0:Int) []))=(G0 hk cs cl)/\(0:Int)=(V0 hk cs cl)/\(([]:List SV)=[]))/\((d6.1=(Ui hk cs cl)/\(List.isEmpty d6.1)=(Ui hk cs cl).isEmpty)/\True)))) d60))))))
def ZR:Cx:=⟨[],[(87,QU),(86,QM),(113,Qt),(112,ZS)],33,[3000017],0,[(103,Vg)],[],[],[],false,[],[],[17],[]⟩
def ZP:List (Nat×LoopAnn):=[]
def NJ:Cx:=⟨[(3,(.i .i64))],[(75,Xm),(76,JG),(77,Wy),(78,Z9)],79,[3000020],0,[(73,Q0f ZR (λ_=>ZP) c73 [.cell 4 true 4,.tmp 5] 33),(74,JF)],[],[],[],false,[],[],[20],[]⟩
def Pa (hk:Int) (cs:List (Int×Int×Bool)) (cl:List Int):List (Nat×LoopAnn):=[(0,⟨Unit,(List Int)×Int×Int,[4,5,6,8,9,10,37,38],λe x=>[.val (.i .i64) (GX (List.getD (Qg hk cs cl) (Int.toNat (0:Int)) []) (λy=>decide (y=(Zl (List.getD (Qg hk cs cl) (Int.toNat (0:Int)) []))))),.lst 69,.val (.i .i64) (Zl (List.getD (Qg hk cs cl) (Int.toNat (0:Int)) [])),.box 8 0,.lst 23,.val (.i .i64) x.2.1,.val (.i .i64) (((List.length cl):Nat):Int),.val (.i .i64) x.2.2],λe x=>[(69,.slot 5,.lst 3 (.i .i64) x.1 (List.isEmpty x.1)),(8,.slot 8,.cells [.val (.i .i64) hk,.val (.list (.pair (.i .i64) (.pair (.i .i64) .bo))) cs,.val (.i .i64) hk,.val (.list (.i .i64)) cl] (some 134)),(23,.slot 9,.lst 27 (.list (.i .i64)) (Qg hk cs cl) false)]⟩),
 (2,⟨(List Int)×Int×Int×Int,Int,[4,5,6,8,9,10,11,12,37,38],λe x=>[.val (.i .i64) (GX (List.getD (Qg hk cs cl) (Int.toNat (0:Int)) []) (λy=>decide (y=(Zl (List.getD (Qg hk cs cl) (Int.toNat (0:Int)) []))))),.lst 69,.val (.i .i64) (Zl (List.getD (Qg hk cs cl) (Int.toNat (0:Int)) [])),.box 8 0,.lst 23,.val (.i .i64) e.2.1,.val (.i .i64) e.2.2.1,.val (.i .i64) x,.val (.i .i64) (((List.length cl):Nat):Int),.val (.i .i64) e.2.2.2],λe x=>[(69,.slot 5,.lst 3 (.i .i64) e.1 (List.isEmpty e.1)),(8,.slot 8,.cells [.val (.i .i64) hk,.val (.list (.pair (.i .i64) (.pair (.i .i64) .bo))) cs,.val (.i .i64) hk,.val (.list (.i .i64)) cl] (some 134)),(23,.slot 9,.lst 27 (.list (.i .i64)) (Qg hk cs cl) false)]⟩)]
theorem Tb (d:(Int×List (Int×Int×Bool))×List Int):gwp (NJ) (Pa d.1.1 d.1.2 d.2) c26 0 (VF [.tmp 4,.tmp 5,.tmp 6,.tmp 7] (N4 d) (UY d)) (Qx 79 (AL.can Mf d))=Ws d.1.1 d.1.2 d.2:=by kernel_rfl
abbrev T9:Prop:=OkC Tryz.prog 26 Vt
theorem P5 (h:∀ (hk:Int) (cs:List (Int×Int×Bool)) (cl:List Int),(QF hk cs=0/\cl.length<=60/\(∀ r∈cl,-1<=r/\r<2 ^ hk.toNat))->Ws hk cs cl):OkC Tryz.prog 26 Vt :=
 Z5 Q5s mixed (C:=NJ) (V:=λ(d:(Int×List (Int×Int×Bool))×List Int)=>Ws d.1.1 d.1.2 d.2) ⟨(.cons Mp (.cons UN (.cons Vr (.cons Jr .nil)))),(XsOk.cons (M1 Q0y mixed (C:=ZR) ⟨(.cons Zx (.cons Ze (.cons Z4 (.cons WC .nil)))),(XsOk.cons Vy XsOk.nil),ItsOk.nil,YlOk.nil,IysOk.nil,XfOk.nil⟩ (λ_=>ZP)) (XsOk.cons VM XsOk.nil)),ItsOk.nil,YlOk.nil,IysOk.nil,XfOk.nil⟩ (Tb) λd hp=>h d.1.1 d.1.2 d.2 hp
theorem Q6q {hk:Int}{cs:List V8}{cl:List Int}(h:Su hk cs cl>=1048576):0=Y7 hk cs cl/\0=G0 hk cs cl/\7=V0 hk cs cl/\Ui hk cs cl=[]/\(Ui hk cs cl).isEmpty=true:=by unfold Y7 G0 V0 Ui;rw[z7 h,z7 h,z7 h,z7 h];exact⟨rfl,rfl,rfl,rfl,rfl⟩
theorem CR {hk:Int}{cs:List V8}{cl:List Int}(h:¬ Su hk cs cl>=1048576):Y7 hk cs cl=C4 hk cs cl/\G0 hk cs cl=Su hk cs cl/\V0 hk cs cl=0/\Ui hk cs cl=K6 cs.length (λk=>wvB hk cs cl k) cl.length cl.length (C4 hk cs cl):=by unfold Y7 G0 V0 Ui;rw[z8 h,z8 h,z8 h,z8 h];exact⟨rfl,rfl,rfl,rfl⟩
theorem A8 {l:List Int}{x:Int}(h:x∈l):∃ i:Nat,i<l.length/\GX l (λy=>decide (y=x))=i/\l.getD i 0=x/\∀ j,j<i->l.getD j 0≠x:=by
 obtain⟨i,hi,hx⟩:=List.getElem_of_mem h;cases hf:l.findIdx? λy=>decide (y=x) with
 |none =>have:=List.findIdx?_eq_none_iff.1 hf x h;simp at this
 |some j =>obtain⟨h1,h2,h3⟩:=List.findIdx?_eq_some_iff_getElem.1 hf;refine⟨j,h1,by unfold GX;rw[hf],by rw[Qh h1];exact zP h2,λk hk e=>?_⟩;have:=h3 k hk;rw[Qh (by omega)] at e;simp[e] at this
set_option maxHeartbeats 2000000 in
theorem PX:T9:=P5 λhk cs cl h=>by
 obtain⟨h1,h2,h3⟩:=id h;obtain⟨hf,b9,az,ai⟩:=Ua h1;have hn:0<cs.length:=xx.2 az;unfold Ws;(try delta lI gD sT I64 ND pj8 pj4);have c1:(!inI hk 1 24)=false:=by simp only[inI,xm,z6,zm];omega
 have c2:(!(!cs.isEmpty&&!(cs.any λc=>!QT hk c)))=false:=by
  have e1:cs.isEmpty=false:=by cases cs with|nil=>exact(az rfl).elim|cons _ _=>rfl
  have e2:(cs.any λc=>!QT hk c)=false:=xD.2 λc hc=>by rw[ai c hc];decide
  rw[e1,e2];rfl
 have c3:(cl.any λx=>(decide (x≠-1)&&!inI x 0 (2 ^ hk.toNat-1)))=false:=xD.2 λx hx=>by
  have:=h3 x hx;by_cases e:x=-1
  .simp[e]
  .have e2:inI x 0 (2 ^ hk.toNat-1)=true:=by
    simp only[inI,z6,zm];omega
   rw[e2];simp
 have d1:decide ((((List.length cs):Nat):Int) > (60:Int))=false:=xK (by omega);have d2:decide ((((List.length cl):Nat):Int) > (60:Int))=false:=xK (by omega);have g0:(Qg hk cs cl).getD (Int.toNat 0) []=QW cs.length (λk=>wvB hk cs cl k) cl.length cl.length:=Ro (Nat.zero_le _);have eE:Zl (QW cs.length (λk=>wvB hk cs cl k) cl.length cl.length)=Su hk cs cl:=rfl;have eI:GX (QW cs.length (λk=>wvB hk cs cl k) cl.length cl.length) (λy=>decide (y=Su hk cs cl))=C4 hk cs cl:=rfl;intro w1 w2;simp only[c1,c2,c3,d1,d2,g0,eE,eI,true_and,and_true,false_implies,zC,forall_const,Fi,Vm];have aR:QW cs.length (λk=>wvB hk cs cl k) cl.length cl.length≠[]:=λe=>by have:=Vm cs.length (λk=>wvB hk cs cl k) cl.length cl.length;rw[e] at this;simp at this;omega
 refine⟨⟨hf.1,hf.2,by omega⟩,⟨by omega,λ_ _=>hf⟩,h,by omega,by omega,⟨aR,by omega⟩,λc=>?_,λc=>?_⟩
 .obtain⟨t1,t2,t3,t4,t5⟩:=Q6q (zP c);exact⟨⟨t1,t2,t3⟩,t4,t5⟩
 have hE:Su hk cs cl<1048576:=by have:=x7 c;omega
 obtain⟨eA,eF,eR,eW⟩:=CR (hk:=hk) (cs:=cs) (cl:=cl) (by omega);rw[eA,eF,eR,eW];obtain⟨i0,lO,hI,hg,_⟩:=A8 (TM aR).1;rw[Vm] at lO;rw[eE,eI] at hI;rw[eE] at hg;have rO:∀ k:Nat,k<=cl.length->(Qg hk cs cl).getD k []=QW cs.length (λk=>wvB hk cs cl k) cl.length (cl.length-k):=λk hk=>Ro hk;obtain⟨W,hW⟩:∃ W:Nat->Int->Bool,(λk=>wvB hk cs cl k)=W:=⟨_,rfl⟩;rw[hW] at hg rO |-;refine⟨by omega,by omega,by omega,(),([],C4 hk cs cl,0),⟨⟨rfl,rfl⟩,rfl,rfl⟩,?_⟩;refine⟨λd=>∃ k:Nat,k<=cl.length/\d.2.2=k/\(0<=d.2.1/\d.2.1<cs.length)/\d.1++K6 cs.length W cl.length (cl.length-k) d.2.1=K6 cs.length W cl.length cl.length (C4 hk cs cl)/\d.1.length=k/\(QW cs.length W cl.length (cl.length-k)).getD d.2.1.toNat 0<1048576,λd=>cl.length-d.2.2.toNat,⟨0,Nat.zero_le _,rfl,⟨by show 0<=C4 hk cs cl;omega,by show C4 hk cs cl<_;omega⟩,rfl,rfl,by show (QW cs.length W cl.length (cl.length-0)).getD (C4 hk cs cl).toNat 0<_;rw[hI,zq,Nat.sub_zero,hg];exact hE⟩,?_⟩;rintro⟨L,a,_⟩ ⟨k,bt,rfl,ha,hL,rP,ah⟩;dsimp only at ha hL rP ah |-;refine⟨λc=>?_,λc=>?_⟩
 .have hk:k<cl.length:=by have:=zP c;omega
  obtain⟨j,hj⟩:∃ j,cl.length-k=j+1:=⟨cl.length-k-1,by omega⟩;have g1:=rO k bt;have g2:=rO (k+1) hk;rw[hj] at g1 hL ah;rw[show cl.length-(k+1)=j by omega] at g2;obtain⟨hw,hs⟩:=Cy ha ah;have nj:=Co cs.length (QW cs.length W cl.length (j+1)) (QW cs.length W cl.length j) a;have j9:=λt (h0:0<=t)=>AU (n:=cs.length) (now:=QW cs.length W cl.length (j+1)) (nxt:=QW cs.length W cl.length j) (a:=a) (t:=t) h0;have pW:K6 cs.length W cl.length (j+1) a=SO cs.length (QW cs.length W cl.length (j+1)) (QW cs.length W cl.length j) a::K6 cs.length W cl.length j (nxC cs.length a (SO cs.length (QW cs.length W cl.length (j+1)) (QW cs.length W cl.length j) a)):=rfl;rw[pW] at hL;generalize SO cs.length (QW cs.length W cl.length (j+1)) (QW cs.length W cl.length j) a=S at hs nj j9 hL;refine⟨(L,a,(k:Int),(k:Int)),0,by and_intros<;>rfl,?_⟩;refine⟨λt=>0<=t/\t<=S,λt=>(S-t).toNat,⟨Int.le_refl _,nj.1⟩,?_⟩;rintro t ⟨sV,wj⟩;dsimp only;rw[show ((k:Int)+1).toNat=k+1 from rfl,zq,g1,g2,Vm,Vm];have ld:=Ot hn ha.1 sV;have mY:=S4 cs.length W cl.length j (nxC cs.length a t).toNat;have sR:=LW t;have rQ:InK .i64 ((if t=1 then 0 else 1)+(QW cs.length W cl.length j).getD (Int.tmod (a+t) cs.length).toNat 0):=by rw[Qn];show _<=ftC t+(QW cs.length W cl.length j).getD (nxC cs.length a t).toNat 0/\ftC t+(QW cs.length W cl.length j).getD (nxC cs.length a t).toNat 0<=_;omega
  refine⟨by rw[Qn];omega,by omega,by omega,⟨az,by omega,by omega,by omega,by omega,by omega⟩,ld.1,ld.2,rQ,by omega,by omega,ha.1,ha.2,λc2=>?_,λc2=>?_⟩
  .have c2:¬ ftC t+(QW cs.length W cl.length j).getD (nxC cs.length a t).toNat 0=(QW cs.length W cl.length (j+1)).getD a.toNat 0:=bne_iff_ne.1 c2;have vA:t≠S:=λe=>c2 (by rw[e];exact hs);exact⟨by rw[Qn];omega,_,rfl,⟨by omega,by omega⟩,by omega⟩
  .have c2:ftC t+(QW cs.length W cl.length j).getD (nxC cs.length a t).toNat 0=(QW cs.length W cl.length (j+1)).getD a.toNat 0:=bne_eq_false_iff_eq.1 c2;have:=j9 t sV c2;obtain rfl:t=S:=by omega
   refine⟨by rw[xr,rP];omega,⟨az,by omega,by omega,by omega,by omega,by omega⟩,by rw[Qn];omega,(L++[t],nxC cs.length a t,(k:Int)+1),?_,⟨k+1,hk,rfl,ld,?_,by rw[zI,rP];rfl,?_⟩,?_⟩
   .and_intros<;>first|rfl|simp
   .dsimp only;rw[zZ,show cl.length-(k+1)=j by omega];exact hL
   .dsimp only;rw[show cl.length-(k+1)=j by omega];omega
   .dsimp only;omega
 .have hk:k=cl.length:=by have:=x7 c;omega
  subst hk;rw[xQ] at hL;have sW:L=K6 cs.length W cl.length cl.length (C4 hk cs cl):=by rw[<-hL];exact(xJ _).symm
  and_intros<;>first|rfl|exact sW|rw[sW]
theorem Tp:TC:=Tz λhk cs a st h=>by
 obtain⟨h1,h2⟩:=h;unfold Yc;(try delta MA YP YY MH ML Di YX YT);(try delta lI gD sT I64 ND pj8 pj4);intro vals;have e:∀ n a b:Int,(decide (n<a)||decide (b<n))=!inI n a b:=λn a b=>(nI n a b).symm;simp only[true_and,and_true,List.any_cons,List.any_nil,xY,e,Bool.not_not,xh,List.length_nil];refine⟨λc=>⟨λ_=>?_,(λd=>by cases d)⟩,λc=>⟨λc2=>⟨λ_=>?_,(λd=>by cases d)⟩,λc2=>⟨?_,λc3=>⟨λ_=>?_,(λd=>by cases d)⟩,λc3=>⟨(λd=>by cases d),λ_=>?_⟩⟩⟩⟩
 .have hb:QF hk cs=3:=by unfold QF;rw[z7 c]
  exact VP (by unfold J4;rw[hb];rfl) (by omega)
 .have c2:=zP c2;have hb:QF hk cs=5:=by unfold QF;rw[z8 (by rw[c];decide),z7 (by omega)]
  exact VP (by unfold J4;rw[hb];rfl) (by omega)
 .have c:=LN c;exact⟨c.1,c.2,by omega⟩
 .have c2:=x7 c2;have hb:=Q0x c (by omega) c3;exact VP (by unfold J4;rw[hb];rfl) (by omega)
 .have c2:=x7 c2;obtain⟨hb,az,ai⟩:=IA c (by omega) c3;have hc:=LN c;have bq:=xx.2 az;refine⟨by simp only[Qn];omega,by omega,λc4=>?_,λc4=>⟨λc5=>?_,λc5=>⟨by omega,λc6=>?_,λc6=>?_⟩⟩⟩
  .exact VP (by unfold J4;rw[hb,z8 (by omega),z7 c4]) (by omega)
  .have c5:=zP c5;exact VP (by unfold J4;rw[hb,z8 (by omega),z8 (by rw[c4];decide),z7 (by omega)]) (by omega)
  .have c5:=x7 c5;exact VP (by unfold J4;rw[hb,z8 (by omega),z8 (by rw[c4];decide),z8 (by omega),z7 c6]) (by omega)
  .have c5:=x7 c5;have e0:J4 hk cs a st=0:=by unfold J4;rw[hb,z8 (by omega),z8 (by rw[c4];decide),z8 (by omega),z8 (by rw[c6];decide)]
   have e1:Vz hk cs a st=atK cs.length a st st.length:=by unfold Vz;rw[z7 e0]
   have e2:GY hk cs a st=Hd hk cs a st st.length:=by unfold GY;rw[z7 e0]
   have ha:=LN c4;have a_:∀ s∈st,0<=s/\s<=2:=λs hs=>by have:=xD.1 c6 s hs;exact LN (by simpa using this)
   rw[e0,e1,e2];refine⟨(),([],a,0),(by and_intros<;>first|rfl|trivial),?_⟩;refine⟨λd=>∃ k:Nat,d.2.2=k/\k<=st.length/\d.1=Hd hk cs a st k/\d.2.1=atK cs.length a st k,λd=>st.length-d.2.2.toNat,⟨0,rfl,by omega,rfl,rfl⟩,?_⟩;rintro⟨l,p,k'⟩ ⟨k,f1,f2,f3,f4⟩;dsimp only at f1 f3 f4 |-;subst f1 f3 f4;have aO:=Q4e (a:=a) (st:=st) bq (by omega) (by omega) (λs hs=>(a_ s hs).1) k;simp only[zq];refine⟨λg=>?_,λg=>?_⟩
   .have g:k<st.length:=by have:=zP g;omega
    have hs:=a_ (st.getD k 0) (by rw[Qh g];exact zp g);have hl:=Pp hk cs a st k;refine⟨by omega,by omega,⟨hc.1,hc.2,aO.1,by omega,ai⟩,by omega,⟨az,h1,by omega,by omega,by omega,by omega⟩,by simp only[Qn];omega,(Hd hk cs a st (k+1),atK cs.length a st (k+1),(k:Int)+1),?_,⟨k+1,by simp,by omega,rfl,rfl⟩,by dsimp only;omega⟩;rw[En];and_intros<;>first|rfl|trivial|simp
   .have g:k=st.length:=by have:=x7 g;omega
    subst g;exact(by and_intros<;>first|rfl|trivial|simp)
def BU:AL (Int×List (Int×Int×Bool)):=(.one (.agg (.cons (.k (.i .i64)) (.one (.k (.list (.pair (.i .i64) (.pair (.i .i64) .bo))))))))
def RC (d:Int×List (Int×Int×Bool)):Prop:=d.2.length<=1000
def D6 (d:Int×List (Int×Int×Bool)):SV:=.agg [.val (.i .i64) d.1,.lst 0]
def DQ (d:Int×List (Int×Int×Bool)):List OB:=[.lst 87 (.pair (.i .i64) (.pair (.i .i64) .bo)) d.2 false]
def GG:CSp:=V5 BU RC D6 DQ
def Vi (hk:Int) (cs:List (Int×Int×Bool)):Prop :=
 (((List.length ([]:List (Int×Int×Bool)))+(List.length cs))*24<=70368744177664)/\((hk=hk/\True/\(([]:List SV)=[]))/\(((([]:List (Int×Int×Bool))++cs)=cs/\((List.isEmpty cs)&&false)=false)/\True))
def BJ:Cx:=⟨[(87,(.pair (.i .i64) (.pair (.i .i64) .bo)))],[],9,[],0,[],[],[],[],false,[],[],[],[]⟩
def Lx (hk:Int) (cs:List (Int×Int×Bool)):List (Nat×LoopAnn):=[]
theorem Ls (d:Int×List (Int×Int×Bool)):gwp (BJ) (Lx d.1 d.2) c16 0 (VF [.cell 2 true 2] (D6 d) (DQ d)) (Qx 9 (AL.can BU d))=Vi d.1 d.2:=by kernel_rfl
abbrev Lo:Prop:=OkC Tryz.prog 16 GG
theorem SP (h:∀ (hk:Int) (cs:List (Int×Int×Bool)),(cs.length<=1000)->Vi hk cs):OkC Tryz.prog 16 GG :=
 Z5 Q5o mixed (C:=BJ) (V:=λ(d:Int×List (Int×Int×Bool))=>Vi d.1 d.2) ⟨.nil,XsOk.nil,ItsOk.nil,YlOk.nil,IysOk.nil,XfOk.nil⟩ (Ls) λd hp=>h d.1 d.2 hp
theorem LP:Lo:=SP λhk cs h=>by unfold Vi;(try delta lI gD sT I64 ND pj8 pj4);simp only[List.length_nil,xj];refine⟨by omega,?_⟩;and_intros<;>first|rfl|trivial|simp
def B5:AL (List Int):=(.one (.k (.list (.i .i64))))
def Tu (d:List Int):Prop:=d.length<=1000
def Gn (d:List Int):SV:=.lst 0
def Gf (d:List Int):List OB:=[.lst 3 (.i .i64) d false]
def Mh:CSp:=V5 B5 Tu Gn Gf
def YZ (l:List Int):Prop :=
 (((List.length ([]:List Int))+(List.length l))*8<=70368744177664)/\(True/\(((([]:List Int)++l)=l/\((List.isEmpty l)&&false)=false)/\True))
def DT:Cx:=⟨[(3,(.i .i64))],[],6,[],0,[],[],[],[],false,[],[],[],[]⟩
def RF (l:List Int):List (Nat×LoopAnn):=[]
theorem RV (d:List Int):gwp (DT) (RF d) c25 0 (VF [.tmp 2] (Gn d) (Gf d)) (Qx 6 (AL.can B5 d))=YZ d:=by kernel_rfl
abbrev Sp:Prop:=OkC Tryz.prog 25 Mh
theorem R_ (h:∀ (l:List Int),(l.length<=1000)->YZ l):OkC Tryz.prog 25 Mh :=
 Z5 Q6y mixed (C:=DT) (V:=λ(d:List Int)=>YZ d) ⟨.nil,XsOk.nil,ItsOk.nil,YlOk.nil,IysOk.nil,XfOk.nil⟩ (RV) λd hp=>h d hp
theorem Rq:Sp:=R_ λl h=>by unfold YZ;(try delta lI gD sT I64 ND pj8 pj4);simp only[List.length_nil,xj];refine⟨by omega,?_⟩;and_intros<;>first|rfl|trivial|simp
def Vq (l:List Int) (i:Int):Int:=if l.length=0 then 0 else l.getD (Int.tmod i l.length).toNat 0
theorem Q01 {l:List Int}{i:Int}(h:∀ x∈l,0<=x/\x<=255) (hi:0<=i):0<=Vq l i/\Vq l i<=255:=by
 unfold Vq;split
 .omega
 .rename_i hz;have e:=Int.tmod_eq_emod_of_nonneg (b:=(l.length:Int)) hi;have g1:=Int.emod_nonneg i (show (l.length:Int)≠0 by omega);have g2:=Int.emod_lt_of_pos i (show (0:Int)<l.length by omega);have g3:(Int.tmod i l.length).toNat<l.length:=by omega
  rw[Qh g3];exact h _ (zp g3)
def P9 (rw:List Int):Nat:=if rw.length=0 then 1 else if rw.length<25 then rw.length else 25
def Q64 (rw:List Int) (i:Nat):V8:=(-1,(Int.tmod (Vq rw i) 8,decide (Vq rw i>=128)))
def Hm (rw:List Int) (k:Nat):List V8:=(List.range k).map (Q64 rw)
def Q4 (rw:List Int):List V8:=Hm rw (P9 rw)
def trM (sp:List Int):Nat:=if sp.length<40 then sp.length else 40
def trV (sp:List Int) (i:Nat):Int:=Int.tmod (sp.getD i 0) 16
def trP (n:Int) (fi:Int) (sp:List Int) (mo:Int):Nat->Int×Int
 |0=>(0,Int.tmod fi n)
 |i+1=>if (decide (trV sp i<2)&&decide ((trP n fi sp mo i).1<mo))=true then ((trP n fi sp mo i).1+1,Int.tmod ((trP n fi sp mo i).2+2*trV sp i) n) else ((trP n fi sp mo i).1,Int.tmod ((trP n fi sp mo i).2+1) n)
def trF (rw:List Int) (fi:Int) (sp:List Int) (mo:Int) (i:Nat):Int:=(trP (Q4 rw).length fi sp mo i).1
def trA (rw:List Int) (fi:Int) (sp:List Int) (mo:Int) (i:Nat):Int:=(trP (Q4 rw).length fi sp mo i).2
def trS (rw:List Int) (fi:Int) (sp:List Int) (mo:Int) (i:Nat):Int:=if (decide (trV sp i<2)&&decide (trF rw fi sp mo i<mo))=true then 2*trV sp i else 1
def trR (rw:List Int) (fi:Int) (sp sn:List Int) (mo:Int) (i:Nat):Int:=if (Int.tmod (Vq sn i) 3==0)=true then -1 else Yh 3 ((Q4 rw).getD (trA rw fi sp mo i).toNat YB)
def K_ (rw:List Int) (fi:Int) (sp:List Int) (mo:Int):List Int:=(List.range (trM sp)).map (trS rw fi sp mo)
def ZW (rw:List Int) (fi:Int) (sp sn:List Int) (mo:Int):List Int:=(List.range (trM sp)).map (trR rw fi sp sn mo)
theorem MB (rw:List Int):1<=P9 rw/\P9 rw<=25:=by unfold P9;split;omega;split<;>omega
theorem Mc (rw:List Int):(Q4 rw).length=P9 rw:=by simp[Q4,Hm]
theorem OO {rw:List Int}(h:∀ x∈rw,0<=x/\x<=255) (i:Nat):QT 3 (Q64 rw i)=true:=by have hb:=Q01 h (show (0:Int)<=(i:Int) by omega);have h1:=Int.tmod_nonneg 8 hb.1;have h2:=Int.tmod_lt_of_pos (Vq rw i) (show (0:Int)<8 by omega);unfold QT inI Q64;simp only[z6,zm];rw[show (2:Int) ^ Int.toNat 3=8 from rfl];exact⟨⟨by decide,by decide⟩,h1,by omega⟩
theorem RT {rw:List Int}(h:∀ x∈rw,0<=x/\x<=255):∀ c∈Q4 rw,QT 3 c=true:=λc hc=>by obtain⟨i,_,rfl⟩:=zE.1 hc;exact OO h i
theorem FV {rw:List Int}(h:∀ x∈rw,0<=x/\x<=255):QF 3 (Q4 rw)=0:=by
 have hl:=Mc rw;have hN:=MB rw;unfold QF;rw[z8 (by decide),z8 (by omega),z8];rintro (e|e)
 .rw[e] at hl;simp at hl;omega
 .obtain⟨c,hc,h2⟩:=xu.1 e;rw[RT h c hc] at h2;cases h2
theorem Aa {sp:List Int}(h:∀ x∈sp,0<=x/\x<=255) {i:Nat}(hi:i<sp.length):(0<=sp.getD i 0/\sp.getD i 0<=255)/\0<=trV sp i/\trV sp i<16:=by have h1:=h _ (by rw[Qh hi];exact zp hi:sp.getD i 0∈sp);exact⟨h1,Int.tmod_nonneg 16 h1.1,Int.tmod_lt_of_pos _ (by omega)⟩
theorem SN (sp:List Int):trM sp<=sp.length/\trM sp<=40:=by unfold trM;split<;>omega
theorem AN {n:Nat}(hn:0<n) {fi:Int}(hf:0<=fi) {sp:List Int}(h:∀ x∈sp,0<=x/\x<=255) {mo:Int}(hm:0<=mo):∀ i:Nat,i<=sp.length->(0<=(trP n fi sp mo i).1/\(trP n fi sp mo i).1<=mo)/\0<=(trP n fi sp mo i).2/\(trP n fi sp mo i).2<n
 |0,_=>⟨⟨Int.le_refl _,hm⟩,Int.tmod_nonneg _ hf,Int.tmod_lt_of_pos _ (by omega)⟩
 |i+1,hi=>by
  obtain⟨⟨h1,h2⟩,h3,h4⟩:=AN hn hf h hm i (by omega);have hv:=(Aa h (show i<sp.length by omega)).2;unfold trP;split
  .rename_i c;simp only[z6,zm] at c;exact⟨⟨by dsimp only;omega,by dsimp only;omega⟩,Int.tmod_nonneg _ (by omega),Int.tmod_lt_of_pos _ (by omega)⟩
  .exact⟨⟨h1,h2⟩,Int.tmod_nonneg _ (by omega),Int.tmod_lt_of_pos _ (by omega)⟩
def NZ:AL (List Int×Int):=(.cons (.k (.list (.i .u8))) (.one (.k (.i .i64))))
def Hn (d:List Int×Int):Prop:=d.1.length<=9223372036854775807/\0<=d.2/\∀ x∈d.1,0<=x/\x<=255
def N2 (d:List Int×Int):SV:=.val (.i .i64) (Vq d.1 d.2)
def UZ (d:List Int×Int):List OB:=[]
def Ye:CSp:=V5 NZ Hn N2 UZ
def Wd (l:List Int) (i:Int):Prop :=
 (((lI l)==(0:Int))=true ->
  ((0:Int)=(Vq l i)/\(True))) /\
 (((lI l)==(0:Int))=false ->
  ((lI l)≠0)/\(0<=(Int.tmod i (lI l)))/\((Int.tmod i (lI l))<(List.length l))/\(I64 (gD l (Int.tmod i (lI l)) 0))/\((gD l (Int.tmod i (lI l)) 0)=(Vq l i)/\(True)))
def M4:Cx:=⟨[],[],16,[],0,[],[],[],[],false,[],[],[],[]⟩
def Ps (l:List Int) (i:Int):List (Nat×LoopAnn):=[]
theorem HZ (d:List Int×Int):gwp (M4) (Ps d.1 d.2) c50 0 (VF [.tmp 4] (N2 d) (UZ d)) (Qx 16 (AL.can NZ d))=Wd d.1 d.2:=by kernel_rfl
abbrev P4:Prop:=OkC Tryz.prog 50 Ye
theorem PS (h:∀ (l:List Int) (i:Int),(l.length<=9223372036854775807/\0<=i/\∀ x∈l,0<=x/\x<=255)->Wd l i):OkC Tryz.prog 50 Ye :=
 Z5 Q55 mixed (C:=M4) (V:=λ(d:List Int×Int)=>Wd d.1 d.2) ⟨.nil,XsOk.nil,ItsOk.nil,YlOk.nil,IysOk.nil,XfOk.nil⟩ (HZ) λd hp=>h d.1 d.2 hp
theorem Mj:P4:=PS λl i h=>by
 obtain⟨h1,h2,h3⟩:=h;unfold Wd;(try delta lI gD sT I64 ND pj8 pj4);refine⟨λhx=>?_,λhx=>?_⟩
 .have:l.length=0:=by have:=eq_of_beq hx;omega
  unfold Vq;rw[z7 this];exact(by and_intros<;>first|rfl|trivial|simp)
 .have h0:l.length≠0:=by have:=ne_of_beq_false hx;omega
  have e:=Int.tmod_eq_emod_of_nonneg (b:=(l.length:Int)) h2;have g1:=Int.emod_nonneg i (show (l.length:Int)≠0 by omega);have g2:=Int.emod_lt_of_pos i (show (0:Int)<l.length by omega);have g3:(Int.tmod i l.length).toNat<l.length:=by omega
  have g4:=h3 _ (by rw[Qh g3];exact zp g3:l.getD (Int.tmod i l.length).toNat 0∈l);refine⟨by omega,by omega,by omega,by rw[Qn];omega,?_⟩;unfold Vq;rw[z8 h0];exact(by and_intros<;>first|rfl|trivial|simp)
def VY:AL (Int×Int):=(.cons (.k (.i .i64)) (.one (.k (.i .i64))))
def DD (d:Int×Int):Prop:=0<=d.2/\d.2<=24/\0<=d.1/\d.1<2 ^ d.2.toNat
def Vc (d:Int×Int):SV:=.val (.i .i64) (IB d.2 d.1)
def Va (d:Int×Int):List OB:=[]
def YE:CSp:=V5 VY DD Vc Va
def Xb (r:Int) (h:Int):Prop :=
 ∃ (e2:Unit) (d20:Int×Int×Int),((r=d20.1/\h=h/\(0:Int)=d20.2.1/\(0:Int)=d20.2.2/\True)/\(True)) /\
 LoopP (λ(d2:Int×Int×Int) (q2:(Int×Int×Int)->Prop) =>
  ((decide (d2.2.2<h))=true ->
   (I64 ((2:Int)*d2.2.1))/\((2:Int)≠0)/\(I64 (((2:Int)*d2.2.1)+(Int.tmod d2.1 (2:Int))))/\((2:Int)≠0)/\(I64 (Int.tdiv d2.1 (2:Int)))/\(I64 (d2.2.2+(1:Int)))/\(∃ d3:Int×Int×Int,(((Int.tdiv d2.1 (2:Int))=d3.1/\h=h/\(((2:Int)*d2.2.1)+(Int.tmod d2.1 (2:Int)))=d3.2.1/\(d2.2.2+(1:Int))=d3.2.2/\True)/\(True))/\q2 d3)) /\
  ((decide (d2.2.2<h))=false ->
   (d2.2.1=(IB h r)/\(True)))) d20
def U0:Cx:=⟨[],[],20,[],0,[],[],[],[],false,[],[],[],[]⟩
def BC (r:Int) (h:Int):List (Nat×LoopAnn):=[(0,⟨Unit,Int×Int×Int,[0,1,5,6],λe x=>[.val (.i .i64) x.1,.val (.i .i64) h,.val (.i .i64) x.2.1,.val (.i .i64) x.2.2],λe x=>[]⟩)]
theorem BE (d:Int×Int):gwp (U0) (BC d.1 d.2) c49 0 (VF [.tmp 4] (Vc d) (Va d)) (Qx 20 (AL.can VY d))=Xb d.1 d.2:=by kernel_rfl
abbrev Bh:Prop:=OkC Tryz.prog 49 YE
theorem Bi (h:∀ (r:Int) (h:Int),(0<=h/\h<=24/\0<=r/\r<2 ^ h.toNat)->Xb r h):OkC Tryz.prog 49 YE :=
 Z5 Q56 mixed (C:=U0) (V:=λ(d:Int×Int)=>Xb d.1 d.2) ⟨.nil,XsOk.nil,ItsOk.nil,YlOk.nil,IysOk.nil,XfOk.nil⟩ (BE) λd hp=>h d.1 d.2 hp
theorem Bq:Bh:=Bi λr h hp=>by
 obtain⟨h1,h2,h3,h4⟩:=hp;obtain⟨f,rfl⟩:=xk h1;obtain⟨n,rfl⟩:=xk h3;unfold Xb;(try delta lI gD sT I64 ND pj8 pj4);simp only[zq,HB] at h4;have hp:=Q1v (k:=f) (by omega);have h4:n<2 ^ f:=by omega
 refine⟨(),((n:Int),0,0),(by and_intros<;>first|rfl|trivial),?_⟩;refine⟨λd=>∃ k:Nat,k<=f/\d=(((n / 2 ^ k:Nat):Int),((Bm k n:Nat):Int),(k:Int)),λd=>f-d.2.2.toNat,⟨0,Nat.zero_le _,by simp[Bm]⟩,?_⟩;rintro _ ⟨k,hk,rfl⟩;dsimp only;have ah:=RA k n;have wk:=Q1v (k:=k) (by omega);refine⟨λc=>?_,λc=>?_⟩
 .have hk:k<f:=by have:=zP c;omega
  have e1:Int.tmod ((n / 2 ^ k:Nat):Int) 2=((n / 2 ^ k % 2:Nat):Int):=rfl;have e2:Int.tdiv ((n / 2 ^ k:Nat):Int) 2=((n / 2 ^ (k+1):Nat):Int):=by rw[Nat.pow_succ,<-Nat.div_div_eq_div_mul];rfl
  have hd:n / 2 ^ k<=n:=Nat.div_le_self ..;have kB:n / 2 ^ (k+1)<=n:=Nat.div_le_self ..;rw[e1,e2];have hq:∀ x:Nat,x<=n->InK .i64 (x:Int):=λx hx=>by rw[Qn];omega
  have iQ:n / 2 ^ k % 2<=1:=by omega
  refine⟨by rw[Qn];omega,by decide,by generalize n / 2 ^ k % 2=B at *;rw[Qn];omega,by decide,hq _ kB,by rw[Qn];omega,(((n / 2 ^ (k+1):Nat):Int),((Bm (k+1) n:Nat):Int),((k+1:Nat):Int)),?_,⟨k+1,hk,rfl⟩,by dsimp only;omega⟩;have e3:2*((Bm k n:Nat):Int)+((n / 2 ^ k % 2:Nat):Int)=((Bm (k+1) n:Nat):Int):=by rw[Bm];push_cast;rfl
  and_intros<;>first|rfl|trivial|exact e3
 .have hk:k=f:=by have:=x7 c;omega
  subst hk;have e:((Bm k n:Nat):Int)=IB (k:Int) (n:Int):=by unfold IB;simp
  and_intros<;>first|rfl|trivial|exact e
def Ke:AL (List Int×Int×List Int×List Int):=(.one (.agg (.cons (.k (.list (.i .u8))) (.cons (.k (.i .u8)) (.cons (.k (.list (.i .u8))) (.one (.k (.list (.i .u8)))))))))
def MX (d:List Int×Int×List Int×List Int):Prop:=d.1.length<=9223372036854775807/\(∀ x∈d.1,0<=x/\x<=255)/\0<=d.2.1/\d.2.1<=255/\d.2.2.1.length<=9223372036854775807/\(∀ x∈d.2.2.1,0<=x/\x<=255)/\d.2.2.2.length<=9223372036854775807/\(∀ x∈d.2.2.2,0<=x/\x<=255)
def YM (d:List Int×Int×List Int×List Int):SV:=.agg [.val (.i .i64) (3:Int),.lst 0]
def YF (d:List Int×Int×List Int×List Int):List OB:=[.lst 87 (.pair (.i .i64) (.pair (.i .i64) .bo)) (Q4 d.1) false]
def JQ:CSp:=V5 Ke MX YM YF
def Jt (rw:List Int) (fi:Int) (sp:List Int) (sn:List Int):Prop :=
 ∃ (e4:Unit) (d40:(List (Int×Int×Bool))×Int),((True/\True/\True/\(0:Int)=d40.2/\True)/\((rw=rw/\fi=fi/\sp=sp/\sn=sn/\(([]:List SV)=[]))/\((0:Int)=(0:Int)/\True/\(([]:List SV)=[]))/\((3:Int)=(3:Int)/\True/\(([]:List SV)=[]))/\(d40.1=[]/\(List.isEmpty d40.1)=true)/\True)) /\
 LoopP (λ(d4:(List (Int×Int×Bool))×Int) (q4:((List (Int×Int×Bool))×Int)->Prop) =>
  (((d4.2==(0:Int))||((decide (d4.2<(lI rw)))&&(decide (d4.2<(25:Int)))))=true ->
   (rw.length<=9223372036854775807/\0<=d4.2/\∀ x∈rw,0<=x/\x<=255)/\((8:Int)≠0)/\(((List.length d4.1)+(List.length [((-1:Int),((Int.tmod (Vq rw d4.2) (8:Int)),(decide ((Vq rw d4.2)>=(128:Int)))))]))*24<=70368744177664)/\(I64 (d4.2+(1:Int)))/\(∃ d5:(List (Int×Int×Bool))×Int,((True/\True/\True/\(d4.2+(1:Int))=d5.2/\True)/\((rw=rw/\fi=fi/\sp=sp/\sn=sn/\(([]:List SV)=[]))/\((0:Int)=(0:Int)/\True/\(([]:List SV)=[]))/\((3:Int)=(3:Int)/\True/\(([]:List SV)=[]))/\((d4.1++[((-1:Int),((Int.tmod (Vq rw d4.2) (8:Int)),(decide ((Vq rw d4.2)>=(128:Int)))))])=d5.1/\false=(List.isEmpty d5.1))/\True))/\q4 d5)) /\
  (((d4.2==(0:Int))||((decide (d4.2<(lI rw)))&&(decide (d4.2<(25:Int)))))=false ->
   (((3:Int)=(3:Int)/\True/\(([]:List SV)=[]))/\((d4.1=(Q4 rw)/\(List.isEmpty d4.1)=false)/\True)))) d40
def Kk:Cx:=⟨[(87,(.pair (.i .i64) (.pair (.i .i64) .bo)))],[(50,Ye)],37,[],0,[],[],[],[],false,[],[],[],[]⟩
def GR (rw:List Int) (fi:Int) (sp:List Int) (sn:List Int):List (Nat×LoopAnn):=[(0,⟨Unit,(List (Int×Int×Bool))×Int,[1,2,3,4],λe x=>[.box 1 0,.box 2 0,.box 3 0,.val (.i .i64) x.2],λe x=>[(1,.slot 1,.cells [.val (.list (.i .u8)) rw,.val (.i .u8) fi,.val (.list (.i .u8)) sp,.val (.list (.i .u8)) sn] (some 98)),(2,.slot 2,.cells [.val (.i .i64) (0:Int),.nilS] (some 24)),(3,.slot 3,.cells [.val (.i .i64) (3:Int),.lst 34] (some 24)),(34,.cell 3 1,.lst 87 (.pair (.i .i64) (.pair (.i .i64) .bo)) x.1 (List.isEmpty x.1))]⟩)]
theorem GM (d:List Int×Int×List Int×List Int):gwp (Kk) (GR d.1 d.2.1 d.2.2.1 d.2.2.2) c53 0 (VF [.cell 2 true 2] (YM d) (YF d)) (Qx 37 (AL.can Ke d))=Jt d.1 d.2.1 d.2.2.1 d.2.2.2:=by kernel_rfl
abbrev GA:Prop:=OkC Tryz.prog 53 JQ
theorem Gt (h:∀ (rw:List Int) (fi:Int) (sp:List Int) (sn:List Int),(rw.length<=9223372036854775807/\(∀ x∈rw,0<=x/\x<=255)/\0<=fi/\fi<=255/\sp.length<=9223372036854775807/\(∀ x∈sp,0<=x/\x<=255)/\sn.length<=9223372036854775807/\(∀ x∈sn,0<=x/\x<=255))->Jt rw fi sp sn):OkC Tryz.prog 53 JQ :=
 Z5 Q72 mixed (C:=Kk) (V:=λ(d:List Int×Int×List Int×List Int)=>Jt d.1 d.2.1 d.2.2.1 d.2.2.2) ⟨(.cons Mj .nil),XsOk.nil,ItsOk.nil,YlOk.nil,IysOk.nil,XfOk.nil⟩ (GM) λd hp=>h d.1 d.2.1 d.2.2.1 d.2.2.2 hp
theorem Kw:GA:=Gt λrw fi sp sn h=>by
 obtain⟨h1,h2,-⟩:=h;have hN:=MB rw;unfold Jt;(try delta lI gD sT I64 ND pj8 pj4);refine⟨(),([],0),(by and_intros<;>first|rfl|trivial),?_⟩;refine⟨λd=>∃ k:Nat,k<=P9 rw/\d=(Hm rw k,(k:Int)),λd=>P9 rw-d.2.toNat,⟨0,by omega,rfl⟩,?_⟩;rintro _ ⟨k,hk,rfl⟩;dsimp only;have hc:(((k:Int)==0)||(decide ((k:Int)<rw.length)&&decide ((k:Int)<25)))=decide (k<P9 rw):=by rw[Bool.eq_iff_iff];simp only[zy,z6,zm,zT];unfold P9 at hk |-;split at hk<;>(try split at hk)<;>(try split)<;>(try split)<;>omega
 rw[hc];have hl:(Hm rw k).length=k:=by simp[Hm]
 have he:Hm rw k++[(-1,(Int.tmod (Vq rw k) 8,decide (Vq rw k>=128)))]=Hm rw (k+1):=by unfold Hm;rw[List.range_succ,xN];rfl
 refine⟨λc=>?_,λc=>?_⟩
 .have c:=zP c;refine⟨⟨h1,by omega,h2⟩,by decide,?_,by rw[Qn];omega,(Hm rw (k+1),((k+1:Nat):Int)),?_,⟨k+1,by omega,rfl⟩,by dsimp only;omega⟩
  .rw[hl,xr];omega
  .have az:false=(Hm rw (k+1)).isEmpty:=by
    rw[<-he];cases Hm rw k<;>rfl
   rw[he];and_intros<;>first|rfl|trivial|exact az|(push_cast;rfl)
 .have c:=x7 c;obtain rfl:k=P9 rw:=by omega
  have az:(Hm rw (P9 rw)).isEmpty=false:=by rw[List.isEmpty_eq_false_iff];intro e;rw[e] at hl;simp at hl;omega
  and_intros<;>first|rfl|trivial|exact az
def YH:AL ((List Int×Int×List Int×List Int)×Int):=(.cons (.agg (.cons (.k (.list (.i .u8))) (.cons (.k (.i .u8)) (.cons (.k (.list (.i .u8))) (.one (.k (.list (.i .u8)))))))) (.one (.k (.i .i64))))
def Me (d:(List Int×Int×List Int×List Int)×Int):Prop:=d.1.1.length<=9223372036854775807/\(∀ x∈d.1.1,0<=x/\x<=255)/\0<=d.1.2.1/\d.1.2.1<=255/\d.1.2.2.1.length<=9223372036854775807/\(∀ x∈d.1.2.2.1,0<=x/\x<=255)/\d.1.2.2.2.length<=9223372036854775807/\(∀ x∈d.1.2.2.2,0<=x/\x<=255)/\0<=d.2/\d.2<=6
def Yo (d:(List Int×Int×List Int×List Int)×Int):SV:=.tup [.val (.i .i64) (trA d.1.1 d.1.2.1 d.1.2.2.1 d.2 0),.lst 0,.lst 1,.val (.i .i64) (trF d.1.1 d.1.2.1 d.1.2.2.1 d.2 (trM d.1.2.2.1)),.val (.i .i64) (trA d.1.1 d.1.2.1 d.1.2.2.1 d.2 (trM d.1.2.2.1))]
def Yz (d:(List Int×Int×List Int×List Int)×Int):List OB:=[.lst 3 (.i .i64) (K_ d.1.1 d.1.2.1 d.1.2.2.1 d.2) ((K_ d.1.1 d.1.2.1 d.1.2.2.1 d.2).isEmpty),.lst 3 (.i .i64) (ZW d.1.1 d.1.2.1 d.1.2.2.1 d.1.2.2.2 d.2) ((ZW d.1.1 d.1.2.1 d.1.2.2.1 d.1.2.2.2 d.2).isEmpty)]
def XI:CSp:=V5 YH Me Yo Yz
def Jb (rw:List Int) (fi:Int) (sp:List Int) (sn:List Int) (mo:Int):Prop :=
 (rw.length<=9223372036854775807/\(∀ x∈rw,0<=x/\x<=255)/\0<=fi/\fi<=255/\sp.length<=9223372036854775807/\(∀ x∈sp,0<=x/\x<=255)/\sn.length<=9223372036854775807/\(∀ x∈sn,0<=x/\x<=255))/\(I64 fi)/\((lI (Q4 rw))≠0)/\∃ (e4:Unit) (d40:(List Int)×(List Int)×Int×Int×Int),((mo=mo/\True/\(Int.tmod fi (lI (Q4 rw)))=(Int.tmod fi (lI (Q4 rw)))/\True/\True/\(0:Int)=d40.2.2.1/\(Int.tmod fi (lI (Q4 rw)))=d40.2.2.2.1/\True/\(0:Int)=(pj4 d40)/\True)/\((rw=rw/\fi=fi/\sp=sp/\sn=sn/\(([]:List SV)=[]))/\(d40.1=[]/\(List.isEmpty d40.1)=true)/\(d40.2.1=[]/\(List.isEmpty d40.2.1)=true)/\((3:Int)=(3:Int)/\True/\(([]:List SV)=[]))/\((Q4 rw)=(Q4 rw)/\false=false)/\True)) /\
 LoopP (λ(d4:(List Int)×(List Int)×Int×Int×Int) (q4:((List Int)×(List Int)×Int×Int×Int)->Prop) =>
  (((decide ((pj4 d4)<(lI sp)))&&(decide ((pj4 d4)<(40:Int))))=true ->
   (0<=(pj4 d4))/\((pj4 d4)<(List.length sp))/\(I64 (gD sp (pj4 d4) 0))/\((16:Int)≠0)/\∃ (e7:(List Int)×(List Int)×Int×Int),Z1h (λ(q7:(Int×Int)->Prop) =>
   (((decide ((Int.tmod (gD sp (pj4 d4) 0) (16:Int))<(2:Int)))&&(decide (d4.2.2.1<mo)))=true ->
    (I64 ((2:Int)*(Int.tmod (gD sp (pj4 d4) 0) (16:Int))))/\(I64 (d4.2.2.1+(1:Int)))/\(∃ d8:Int×Int,((mo=mo/\True/\(Int.tmod fi (lI (Q4 rw)))=(Int.tmod fi (lI (Q4 rw)))/\True/\True/\(d4.2.2.1+(1:Int))=d8.1/\d4.2.2.2.1=e7.2.2.1/\True/\(pj4 d4)=e7.2.2.2/\((2:Int)*(Int.tmod (gD sp (pj4 d4) 0) (16:Int)))=d8.2/\True)/\((rw=rw/\fi=fi/\sp=sp/\sn=sn/\(([]:List SV)=[]))/\(d4.1=e7.1/\(List.isEmpty d4.1)=(List.isEmpty e7.1))/\(d4.2.1=e7.2.1/\(List.isEmpty d4.2.1)=(List.isEmpty e7.2.1))/\((3:Int)=(3:Int)/\True/\(([]:List SV)=[]))/\((Q4 rw)=(Q4 rw)/\false=false)/\True))/\q7 d8)) /\
   (((decide ((Int.tmod (gD sp (pj4 d4) 0) (16:Int))<(2:Int)))&&(decide (d4.2.2.1<mo)))=false ->
    (∃ d9:Int×Int,((mo=mo/\True/\(Int.tmod fi (lI (Q4 rw)))=(Int.tmod fi (lI (Q4 rw)))/\True/\True/\d4.2.2.1=d9.1/\d4.2.2.2.1=e7.2.2.1/\True/\(pj4 d4)=e7.2.2.2/\(1:Int)=d9.2/\True)/\((rw=rw/\fi=fi/\sp=sp/\sn=sn/\(([]:List SV)=[]))/\(d4.1=e7.1/\(List.isEmpty d4.1)=(List.isEmpty e7.1))/\(d4.2.1=e7.2.1/\(List.isEmpty d4.2.1)=(List.isEmpty e7.2.1))/\((3:Int)=(3:Int)/\True/\(([]:List SV)=[]))/\((Q4 rw)=(Q4 rw)/\false=false)/\True))/\q7 d9)))
   (λ(d7:Int×Int) =>
    (0<=e7.2.2.1)/\(e7.2.2.1<(List.length (Q4 rw)))/\∃ (cz:(List Int)×(List Int)×Int×Int×Int×Int),Z1h (λ(pX:(Int)->Prop) =>
    ((gD (Q4 rw) e7.2.2.1 (0,(0,false))).2.2=true ->
     (0<=(3:Int)/\(3:Int)<=24/\0<=((gD (Q4 rw) e7.2.2.1 (0,(0,false))).2.1)/\((gD (Q4 rw) e7.2.2.1 (0,(0,false))).2.1)<2 ^ (3:Int).toNat)/\(∃ d13:Int,((mo=mo/\True/\(Int.tmod fi (lI (Q4 rw)))=(Int.tmod fi (lI (Q4 rw)))/\True/\True/\d7.1=cz.2.2.1/\e7.2.2.1=cz.2.2.2.1/\True/\e7.2.2.2=(pj4 cz).1/\d7.2=(pj4 cz).2/\(IB (3:Int) ((gD (Q4 rw) e7.2.2.1 (0,(0,false))).2.1))=d13/\True)/\((rw=rw/\fi=fi/\sp=sp/\sn=sn/\(([]:List SV)=[]))/\(e7.1=cz.1/\(List.isEmpty e7.1)=(List.isEmpty cz.1))/\(e7.2.1=cz.2.1/\(List.isEmpty e7.2.1)=(List.isEmpty cz.2.1))/\((3:Int)=(3:Int)/\True/\(([]:List SV)=[]))/\((Q4 rw)=(Q4 rw)/\false=false)/\True))/\pX d13)) /\
    ((gD (Q4 rw) e7.2.2.1 (0,(0,false))).2.2=false ->
     (∃ d14:Int,((mo=mo/\True/\(Int.tmod fi (lI (Q4 rw)))=(Int.tmod fi (lI (Q4 rw)))/\True/\True/\d7.1=cz.2.2.1/\e7.2.2.1=cz.2.2.2.1/\True/\e7.2.2.2=(pj4 cz).1/\d7.2=(pj4 cz).2/\(gD (Q4 rw) e7.2.2.1 (0,(0,false))).2.1=d14/\True)/\((rw=rw/\fi=fi/\sp=sp/\sn=sn/\(([]:List SV)=[]))/\(e7.1=cz.1/\(List.isEmpty e7.1)=(List.isEmpty cz.1))/\(e7.2.1=cz.2.1/\(List.isEmpty e7.2.1)=(List.isEmpty cz.2.1))/\((3:Int)=(3:Int)/\True/\(([]:List SV)=[]))/\((Q4 rw)=(Q4 rw)/\false=false)/\True))/\pX d14)))
    (λ(d12:Int) =>
     (sn.length<=9223372036854775807/\0<=(pj4 cz).1/\∀ x∈sn,0<=x/\x<=255)/\((3:Int)≠0)/\∃ (dk:(List Int)×(List Int)×Int×Int×Int×Int),Z1h (λ(sX:(Int)->Prop) =>
     (((Int.tmod (Vq sn (pj4 cz).1) (3:Int))==(0:Int))=true ->
      (∃ d18:Int,((mo=mo/\True/\(Int.tmod fi (lI (Q4 rw)))=(Int.tmod fi (lI (Q4 rw)))/\True/\True/\cz.2.2.1=dk.2.2.1/\cz.2.2.2.1=dk.2.2.2.1/\True/\(pj4 cz).1=(pj4 dk).1/\(pj4 cz).2=(pj4 dk).2/\(-1:Int)=d18/\True)/\((rw=rw/\fi=fi/\sp=sp/\sn=sn/\(([]:List SV)=[]))/\(cz.1=dk.1/\(List.isEmpty cz.1)=(List.isEmpty dk.1))/\(cz.2.1=dk.2.1/\(List.isEmpty cz.2.1)=(List.isEmpty dk.2.1))/\((3:Int)=(3:Int)/\True/\(([]:List SV)=[]))/\((Q4 rw)=(Q4 rw)/\false=false)/\True))/\sX d18)) /\
     (((Int.tmod (Vq sn (pj4 cz).1) (3:Int))==(0:Int))=false ->
      (∃ d19:Int,((mo=mo/\True/\(Int.tmod fi (lI (Q4 rw)))=(Int.tmod fi (lI (Q4 rw)))/\True/\True/\cz.2.2.1=dk.2.2.1/\cz.2.2.2.1=dk.2.2.2.1/\True/\(pj4 cz).1=(pj4 dk).1/\(pj4 cz).2=(pj4 dk).2/\d12=d19/\True)/\((rw=rw/\fi=fi/\sp=sp/\sn=sn/\(([]:List SV)=[]))/\(cz.1=dk.1/\(List.isEmpty cz.1)=(List.isEmpty dk.1))/\(cz.2.1=dk.2.1/\(List.isEmpty cz.2.1)=(List.isEmpty dk.2.1))/\((3:Int)=(3:Int)/\True/\(([]:List SV)=[]))/\((Q4 rw)=(Q4 rw)/\false=false)/\True))/\sX d19)))
     (λ(d17:Int) =>
      (((List.length dk.1)+(List.length [(pj4 dk).2]))*8<=70368744177664)/\(((List.length dk.2.1)+(List.length [d17]))*8<=70368744177664)/\(I64 (dk.2.2.2.1+(pj4 dk).2))/\((lI (Q4 rw))≠0)/\(I64 ((pj4 dk).1+(1:Int)))/\(∃ d20:(List Int)×(List Int)×Int×Int×Int,((mo=mo/\True/\(Int.tmod fi (lI (Q4 rw)))=(Int.tmod fi (lI (Q4 rw)))/\True/\True/\dk.2.2.1=d20.2.2.1/\(Int.tmod (dk.2.2.2.1+(pj4 dk).2) (lI (Q4 rw)))=d20.2.2.2.1/\True/\((pj4 dk).1+(1:Int))=(pj4 d20)/\True)/\((rw=rw/\fi=fi/\sp=sp/\sn=sn/\(([]:List SV)=[]))/\((dk.1++[(pj4 dk).2])=d20.1/\false=(List.isEmpty d20.1))/\((dk.2.1++[d17])=d20.2.1/\false=(List.isEmpty d20.2.1))/\((3:Int)=(3:Int)/\True/\(([]:List SV)=[]))/\((Q4 rw)=(Q4 rw)/\false=false)/\True))/\q4 d20))))) /\
  (((decide ((pj4 d4)<(lI sp)))&&(decide ((pj4 d4)<(40:Int))))=false ->
   (((Int.tmod fi (lI (Q4 rw)))=(trA rw fi sp mo 0)/\True/\True/\d4.2.2.1=(trF rw fi sp mo (trM sp))/\d4.2.2.2.1=(trA rw fi sp mo (trM sp))/\(([]:List SV)=[]))/\((d4.1=(K_ rw fi sp mo)/\(List.isEmpty d4.1)=(K_ rw fi sp mo).isEmpty)/\(d4.2.1=(ZW rw fi sp sn mo)/\(List.isEmpty d4.2.1)=(ZW rw fi sp sn mo).isEmpty)/\True)))) d40
def YL:Cx:=⟨[(3,(.i .i64))],[(53,JQ),(49,YE),(50,Ye)],91,[],0,[],[],[],[],false,[],[],[],[]⟩
def MY (rw:List Int) (fi:Int) (sp:List Int) (sn:List Int) (mo:Int):List (Nat×LoopAnn):=[(0,⟨Unit,(List Int)×(List Int)×Int×Int×Int,[1,2,4,5,6,7,8,9,10],λe x=>[.val (.i .i64) mo,.box 2 0,.val (.i .i64) (Int.tmod fi (((List.length (Q4 rw)):Nat):Int)),.lst 74,.lst 78,.val (.i .i64) x.2.2.1,.val (.i .i64) x.2.2.2.1,.box 9 0,.val (.i .i64) x.2.2.2.2],λe x=>[(2,.slot 2,.cells [.val (.list (.i .u8)) rw,.val (.i .u8) fi,.val (.list (.i .u8)) sp,.val (.list (.i .u8)) sn] (some 98)),(74,.slot 5,.lst 3 (.i .i64) x.1 (List.isEmpty x.1)),(78,.slot 6,.lst 3 (.i .i64) x.2.1 (List.isEmpty x.2.1)),(9,.slot 9,.cells [.val (.i .i64) (3:Int),.lst 16] (some 24)),(16,.cell 9 1,.lst 87 (.pair (.i .i64) (.pair (.i .i64) .bo)) (Q4 rw) false)]⟩),
 (3000049,⟨(List Int)×(List Int)×Int×Int,Int×Int,[1,2,4,5,6,7,8,9,10,11],λe x=>[.val (.i .i64) mo,.box 2 0,.val (.i .i64) (Int.tmod fi (((List.length (Q4 rw)):Nat):Int)),.lst 74,.lst 78,.val (.i .i64) x.1,.val (.i .i64) e.2.2.1,.box 9 0,.val (.i .i64) e.2.2.2,.val (.i .i64) x.2],λe x=>[(2,.slot 2,.cells [.val (.list (.i .u8)) rw,.val (.i .u8) fi,.val (.list (.i .u8)) sp,.val (.list (.i .u8)) sn] (some 98)),(74,.slot 5,.lst 3 (.i .i64) e.1 (List.isEmpty e.1)),(78,.slot 6,.lst 3 (.i .i64) e.2.1 (List.isEmpty e.2.1)),(9,.slot 9,.cells [.val (.i .i64) (3:Int),.lst 16] (some 24)),(16,.cell 9 1,.lst 87 (.pair (.i .i64) (.pair (.i .i64) .bo)) (Q4 rw) false)]⟩),
 (3000062,⟨(List Int)×(List Int)×Int×Int×Int×Int,Int,[1,2,4,5,6,7,8,9,10,11,14],λe x=>[.val (.i .i64) mo,.box 2 0,.val (.i .i64) (Int.tmod fi (((List.length (Q4 rw)):Nat):Int)),.lst 74,.lst 78,.val (.i .i64) e.2.2.1,.val (.i .i64) e.2.2.2.1,.box 9 0,.val (.i .i64) e.2.2.2.2.1,.val (.i .i64) e.2.2.2.2.2,.val (.i .i64) x],λe x=>[(2,.slot 2,.cells [.val (.list (.i .u8)) rw,.val (.i .u8) fi,.val (.list (.i .u8)) sp,.val (.list (.i .u8)) sn] (some 98)),(74,.slot 5,.lst 3 (.i .i64) e.1 (List.isEmpty e.1)),(78,.slot 6,.lst 3 (.i .i64) e.2.1 (List.isEmpty e.2.1)),(9,.slot 9,.cells [.val (.i .i64) (3:Int),.lst 16] (some 24)),(16,.cell 9 1,.lst 87 (.pair (.i .i64) (.pair (.i .i64) .bo)) (Q4 rw) false)]⟩),
 (3000070,⟨(List Int)×(List Int)×Int×Int×Int×Int,Int,[1,2,4,5,6,7,8,9,10,11,14],λe x=>[.val (.i .i64) mo,.box 2 0,.val (.i .i64) (Int.tmod fi (((List.length (Q4 rw)):Nat):Int)),.lst 74,.lst 78,.val (.i .i64) e.2.2.1,.val (.i .i64) e.2.2.2.1,.box 9 0,.val (.i .i64) e.2.2.2.2.1,.val (.i .i64) e.2.2.2.2.2,.val (.i .i64) x],λe x=>[(2,.slot 2,.cells [.val (.list (.i .u8)) rw,.val (.i .u8) fi,.val (.list (.i .u8)) sp,.val (.list (.i .u8)) sn] (some 98)),(74,.slot 5,.lst 3 (.i .i64) e.1 (List.isEmpty e.1)),(78,.slot 6,.lst 3 (.i .i64) e.2.1 (List.isEmpty e.2.1)),(9,.slot 9,.cells [.val (.i .i64) (3:Int),.lst 16] (some 24)),(16,.cell 9 1,.lst 87 (.pair (.i .i64) (.pair (.i .i64) .bo)) (Q4 rw) false)]⟩)]
theorem G2 (d:(List Int×Int×List Int×List Int)×Int):gwp (YL) (MY d.1.1 d.1.2.1 d.1.2.2.1 d.1.2.2.2 d.2) c54 0 (VF [.tmp 4,.tmp 5,.tmp 6,.tmp 7,.tmp 8] (Yo d) (Yz d)) (Qx 91 (AL.can YH d))=Jb d.1.1 d.1.2.1 d.1.2.2.1 d.1.2.2.2 d.2:=by kernel_rfl
abbrev G3:Prop:=OkC Tryz.prog 54 XI
theorem G1 (h:∀ (rw:List Int) (fi:Int) (sp:List Int) (sn:List Int) (mo:Int),(rw.length<=9223372036854775807/\(∀ x∈rw,0<=x/\x<=255)/\0<=fi/\fi<=255/\sp.length<=9223372036854775807/\(∀ x∈sp,0<=x/\x<=255)/\sn.length<=9223372036854775807/\(∀ x∈sn,0<=x/\x<=255)/\0<=mo/\mo<=6)->Jb rw fi sp sn mo):OkC Tryz.prog 54 XI :=
 Z5 Q5v mixed (C:=YL) (V:=λ(d:(List Int×Int×List Int×List Int)×Int)=>Jb d.1.1 d.1.2.1 d.1.2.2.1 d.1.2.2.2 d.2) ⟨(.cons Kw (.cons Bq (.cons Mj .nil))),XsOk.nil,ItsOk.nil,YlOk.nil,IysOk.nil,XfOk.nil⟩ (G2) λd hp=>h d.1.1 d.1.2.1 d.1.2.2.1 d.1.2.2.2 d.2 hp
set_option maxHeartbeats 1000000 in
theorem MW:G3:=G1 λrw fi sp sn mo h=>by
 obtain⟨⟨h1,h2,h3,h4,h5,h6,h7,h8⟩,h9,bT⟩:(rw.length<=9223372036854775807/\(∀ x∈rw,0<=x/\x<=255)/\0<=fi/\fi<=255/\sp.length<=9223372036854775807/\(∀ x∈sp,0<=x/\x<=255)/\sn.length<=9223372036854775807/\(∀ x∈sn,0<=x/\x<=255))/\0<=mo/\mo<=6:=⟨⟨h.1,h.2.1,h.2.2.1,h.2.2.2.1,h.2.2.2.2.1,h.2.2.2.2.2.1,h.2.2.2.2.2.2.1,h.2.2.2.2.2.2.2.1⟩,h.2.2.2.2.2.2.2.2.1,h.2.2.2.2.2.2.2.2.2⟩;have hN:=MB rw;have hl:=Mc rw;have hM:=SN sp;unfold Jb;(try delta lI gD sT I64 ND pj8 pj4);simp only[true_and,and_true];have hb:=AN (n:=(Q4 rw).length) (by omega) h3 h6 h9;refine⟨⟨h1,h2,h3,h4,h5,h6,h7,h8⟩,by rw[Qn];omega,by omega,(),([],[],0,Int.tmod fi (Q4 rw).length,0),(by and_intros<;>first|rfl|trivial),?_⟩;refine⟨λd=>∃ k:Nat,k<=trM sp/\d=((List.range k).map (trS rw fi sp mo),(List.range k).map (trR rw fi sp sn mo),trF rw fi sp mo k,trA rw fi sp mo k,(k:Int)),λd=>trM sp-d.2.2.2.2.toNat,⟨0,Nat.zero_le _,rfl⟩,?_⟩;rintro _ ⟨k,hk,rfl⟩;dsimp only;have hc:(decide ((k:Int)<sp.length)&&decide ((k:Int)<40))=decide (k<trM sp):=by rw[Bool.eq_iff_iff];simp only[z6,zm];unfold trM;split<;>omega
 rw[hc];refine⟨λc=>?_,λc=>?_⟩
 .have c:=zP c;have jy:k<sp.length:=by omega
  have hv:=Aa h6 jy;have vz:=hb k (by omega);have wm:trA rw fi sp mo k=(trP (Q4 rw).length fi sp mo k).2:=rfl;have wo:trF rw fi sp mo k=(trP (Q4 rw).length fi sp mo k).1:=rfl;have gC:Int.tmod (sp.getD k 0) 16=trV sp k:=rfl;have sY:(trA rw fi sp mo k).toNat<(Q4 rw).length:=by omega
  have qf:=RT h2 _ (by rw[Qh sY];exact zp sY:(Q4 rw).getD (trA rw fi sp mo k).toNat YB∈Q4 rw);have bN:=Bd qf;have nk:trS rw fi sp mo k=if (decide (trV sp k<2)&&decide (trF rw fi sp mo k<mo))=true then 2*trV sp k else 1:=rfl
  have jG:trF rw fi sp mo (k+1)=if (decide (trV sp k<2)&&decide (trF rw fi sp mo k<mo))=true then trF rw fi sp mo k+1 else trF rw fi sp mo k:=by unfold trF;rw[trP];split<;>rfl
  have vB:trA rw fi sp mo (k+1)=Int.tmod (trA rw fi sp mo k+trS rw fi sp mo k) (Q4 rw).length:=by rw[nk];unfold trA trF;rw[trP];split<;>rfl
  have pY:trR rw fi sp sn mo k=if (Int.tmod (Vq sn k) 3==0)=true then -1 else Yh 3 ((Q4 rw).getD (trA rw fi sp mo k).toNat YB):=rfl
  have wq:0<=trS rw fi sp mo k/\trS rw fi sp mo k<=2:=by
   rw[nk];split
   .rename_i c;simp only[z6,zm] at c;omega
   .omega
  have sZ:(List.range k).map (trS rw fi sp mo)++[trS rw fi sp mo k]=(List.range (k+1)).map (trS rw fi sp mo):=by rw[List.range_succ,xN];rfl
  have pW:(List.range k).map (trR rw fi sp sn mo)++[trR rw fi sp sn mo k]=(List.range (k+1)).map (trR rw fi sp sn mo):=by rw[List.range_succ,xN];rfl
  have az:∀ (l:List Int) (a:Int),false=(l++[a]).isEmpty:=λl a=>by cases l<;>rfl
  have fG:=az ((List.range k).map (trS rw fi sp mo)) (trS rw fi sp mo k);have dQ:=az ((List.range k).map (trR rw fi sp sn mo)) (trR rw fi sp sn mo k);rw[sZ] at fG;rw[pW] at dQ;simp only[zq,gC];refine⟨by omega,by omega,by rw[Qn];omega,by decide,((List.range k).map (trS rw fi sp mo),(List.range k).map (trR rw fi sp sn mo),trA rw fi sp mo k,(k:Int)),λd=>d=(trF rw fi sp mo (k+1),trS rw fi sp mo k),⟨λc1=>?_,λc1=>?_⟩,?_⟩
  .rw[z7 c1] at jG nk;simp only[z6,zm] at c1;exact⟨by rw[Qn];omega,by rw[Qn];omega,(trF rw fi sp mo k+1,2*trV sp k),by and_intros<;>rfl,by rw[jG,nk]⟩
  .rw[z8 (by rw[c1];decide)] at jG nk;exact⟨(trF rw fi sp mo k,1),by and_intros<;>rfl,by rw[jG,nk]⟩
  rintro _ rfl;dsimp only;refine⟨by omega,by omega,((List.range k).map (trS rw fi sp mo),(List.range k).map (trR rw fi sp sn mo),trF rw fi sp mo (k+1),trA rw fi sp mo k,(k:Int),trS rw fi sp mo k),λd=>d=Yh 3 ((Q4 rw).getD (trA rw fi sp mo k).toNat YB),⟨λc1=>?_,λc1=>?_⟩,?_⟩
  .refine⟨⟨by decide,by decide,bN.1,bN.2⟩,_,by and_intros<;>rfl,?_⟩;unfold Yh;rw[z7 (show ((Q4 rw).getD (trA rw fi sp mo k).toNat YB).2.2=true from c1)];rfl
  .refine⟨_,by and_intros<;>rfl,?_⟩;unfold Yh;rw[z8 (show ¬ ((Q4 rw).getD (trA rw fi sp mo k).toNat YB).2.2=true from λe=>by rw[show ((Q4 rw).getD (trA rw fi sp mo k).toNat (0,0,false)).2.2=true from e] at c1;cases c1)];rfl
  rintro _ rfl;dsimp only;refine⟨⟨h7,by omega,h8⟩,by decide,((List.range k).map (trS rw fi sp mo),(List.range k).map (trR rw fi sp sn mo),trF rw fi sp mo (k+1),trA rw fi sp mo k,(k:Int),trS rw fi sp mo k),λd=>d=trR rw fi sp sn mo k,⟨λc1=>?_,λc1=>?_⟩,?_⟩
  .rw[z7 c1] at pY;exact⟨_,by and_intros<;>rfl,pY.symm⟩
  .rw[z8 (by rw[c1];decide)] at pY;exact⟨_,by and_intros<;>rfl,pY.symm⟩
  rintro _ rfl;dsimp only;rw[sZ,pW,<-vB];refine⟨by simp;omega,by simp;omega,by rw[Qn];omega,by omega,by rw[Qn];omega,(_,_,_,_,_),(by and_intros<;>first|rfl|exact fG|exact dQ),⟨k+1,by omega,rfl⟩,by dsimp only;omega⟩
 .have c:=x7 c;obtain rfl:k=trM sp:=by omega
  have e:(List.range (trM sp)).map (trS rw fi sp mo)=K_ rw fi sp mo:=rfl;and_intros<;>first|rfl|trivial
end Go.Proofs.Tryz
namespace Go.Proofs
open Go.Shelf
def Tryz.q1z:Go.Shelf.Ren:=⟨fun|189=>120|125=>141|257=>147|128=>163|129=>164|294=>167|295=>168|296=>169|297=>170|298=>171|299=>172|216=>173|300=>174|301=>175|328=>190|329=>186|330=>187|331=>191|332=>192|215=>111|343=>197|n=>n,fun|28=>27|3=>3|46=>90|0=>0|51=>77|53=>216|4=>4|183=>220|182=>219|131=>199|5=>5|9=>9|218=>241|222=>245|228=>251|229=>252|n=>n,fun|n=>n⟩
theorem Tryz.lays189:Go.Proofs.Lays.n189 Tryz.prog Tryz.q1z:={
 mixed:=by kernel_rfl
 f125:=Tryz.func141.trans (congrArg some (by kernel_rfl))
 f128:=Tryz.func163.trans (congrArg some (by kernel_rfl))
 f129:=Tryz.func164.trans (congrArg some (by kernel_rfl))
 f189:=Tryz.func120.trans (congrArg some (by kernel_rfl))
 f215:=Tryz.func111.trans (congrArg some (by kernel_rfl))
 f216:=Tryz.func173.trans (congrArg some (by kernel_rfl))
 f257:=Tryz.func147.trans (congrArg some (by kernel_rfl))
 f294:=Tryz.func167.trans (congrArg some (by kernel_rfl))
 f295:=Tryz.func168.trans (congrArg some (by kernel_rfl))
 f296:=Tryz.func169.trans (congrArg some (by kernel_rfl))
 f297:=Tryz.func170.trans (congrArg some (by kernel_rfl))
 f298:=Tryz.func171.trans (congrArg some (by kernel_rfl))
 f299:=Tryz.func172.trans (congrArg some (by kernel_rfl))
 f300:=Tryz.func174.trans (congrArg some (by kernel_rfl))
 f301:=Tryz.func175.trans (congrArg some (by kernel_rfl))
 f328:=Tryz.func190.trans (congrArg some (by kernel_rfl))
 f329:=Tryz.func186.trans (congrArg some (by kernel_rfl))
 f330:=Tryz.func187.trans (congrArg some (by kernel_rfl))
 f331:=Tryz.func191.trans (congrArg some (by kernel_rfl))
 f332:=Tryz.func192.trans (congrArg some (by kernel_rfl))
 f343:=Tryz.func197.trans (congrArg some (by kernel_rfl))
 t0:=Tryz.underlying0
 a0:=Tryz.isAgg0
 z0:=Tryz.sizeOf0
 v0:=Tryz.zeroValue0
 t3:=Tryz.underlying3
 a3:=Tryz.isAgg3
 z3:=Tryz.sizeOf3
 v3:=Tryz.zeroValue3
 t4:=Tryz.underlying4
 a4:=Tryz.isAgg4
 z4:=Tryz.sizeOf4
 v4:=Tryz.zeroValue4
 t5:=Tryz.underlying5
 a5:=Tryz.isAgg5
 z5:=Tryz.sizeOf5
 v5:=Tryz.zeroValue5
 t9:=Tryz.underlying9
 a9:=Tryz.isAgg9
 z9:=Tryz.sizeOf9
 v9:=Tryz.zeroValue9
 t28:=Tryz.underlying27
 a28:=Tryz.isAgg27
 z28:=Tryz.sizeOf27
 v28:=Tryz.zeroValue27
 t46:=Tryz.underlying90
 a46:=Tryz.isAgg90
 z46:=Tryz.sizeOf90
 v46:=Tryz.zeroValue90
 t51:=Tryz.underlying77
 a51:=Tryz.isAgg77
 z51:=Tryz.sizeOf77
 v51:=Tryz.zeroValue77
 t53:=Tryz.underlying216
 a53:=Tryz.isAgg216
 z53:=Tryz.sizeOf216
 v53:=Tryz.zeroValue216
 t131:=Tryz.underlying199
 a131:=Tryz.isAgg199
 z131:=Tryz.sizeOf199
 v131:=Tryz.zeroValue199
 t182:=Tryz.underlying219
 a182:=Tryz.isAgg219
 z182:=Tryz.sizeOf219
 v182:=Tryz.zeroValue219
 t183:=Tryz.underlying220
 a183:=Tryz.isAgg220
 z183:=Tryz.sizeOf220
 v183:=Tryz.zeroValue220
 t218:=Tryz.underlying241
 a218:=Tryz.isAgg241
 z218:=Tryz.sizeOf241
 v218:=Tryz.zeroValue241
 t222:=Tryz.underlying245
 a222:=Tryz.isAgg245
 z222:=Tryz.sizeOf245
 v222:=Tryz.zeroValue245
 t228:=Tryz.underlying251
 a228:=Tryz.isAgg251
 z228:=Tryz.sizeOf251
 v228:=Tryz.zeroValue251
 t229:=Tryz.underlying252
 a229:=Tryz.isAgg252
 z229:=Tryz.sizeOf252
 v229:=Tryz.zeroValue252}
end Go.Proofs
namespace Go.V
open Go
theorem Q0z {P:Program}{M:Heap}:Ret P M (.val .bo true) [] (.bool true) M :=
 ⟨⟨.refl _,Dead.refl _⟩,λ_=>rfl,Jo,λj b hj=>by simp at hj,λj j' i hj=>by simp at hj,by simp[SR,KC]⟩
theorem Q09 {P:Program}{f:Nat}(h:∀ (M:Heap) (K:Value->Heap->Prop),K (.bool true) M->VCalled P f [] M K):OkC P f (V5 (.nil:AL Unit) (λ_=>True) (λ_=>.val .bo true) (λ_=>[])):=by
 intro ap dO M args vs c v bs ax hs hv b_ hc;unfold V5 at hs;split at hs
 .rename_i d hd;obtain⟨rfl,rfl,rfl⟩:=(by simpa using hs:True=c/\SV.val .bo true=v/\[]=bs);have:vs=[]:=by
   cases args with
   |nil=>simpa [SRs] using ax
   |cons a l=>simp[AL.dec] at hd
  subst this;refine⟨h M _ Q0z,λ_ _=>h M _ ⟨rfl,?_⟩⟩;unfold Hr;cases M;simp only[List.length_nil,zK,List.getElem?_nil,Option.bind_none,Heap.mk.injEq,and_true];funext i;split
  .rfl
  .rename_i wf hi;exact wf i (by simpa using hi)
 .cases hs
end Go.V
namespace Go.V
open Go Go.RowKit
theorem E7 {ρ:Plc}{n:Nat}{args:List Value}{aw:Array Value}(ha:args.all QN=true) (hL:LRel ρ n args aw.toList):aw=args.toArray:=by
 apply Array.ext';apply zV;intro i;cases hi:aw.toList[i]? with
 |none =>have:=List.getElem?_eq_none_iff.1 hi;rw[<-hL.1] at this;rw[zk (by simpa using this)]
 |some c =>have ah:=(zg.1 hi).1;rw[<-hL.1] at ah;have h1:=hL.2 i args[i] c (z1 ah) hi;rw[YV (zf.1 ha _ (zp ah)) h1];simp[z1 ah]
theorem N_ {α:Type}[Inhabited α] (enc:α->Value) (blk:Nat):∀ (ys:List α) (w:World) (off:Nat),Go.Sort.putRow enc w blk off ys.toArray=w.setCells blk off (ys.map enc)
 |[],w,off=>by
  simp only[List.map_nil,World.setCells];refine Go.Sort.mapBlock_id _ _ _ λc _ _ _=>?_;apply Array.ext_getElem?;intro k;simp only[Go.Sort.putCells,Array.getElem?_mapIdx];cases h:c[k]? with
  |none=>rfl
  |some x=>rw[z_,z8 (by simp)]
 |y::ys,w,off=>by
  rw[zJ,World.setCells,<-N_ enc blk ys,Go.Sort.setCell_eq];unfold Go.Sort.putRow;rw[Go.Sort.mapBlock_mapBlock];refine Go.Sort.mapBlock_congr _ _ _ _ λc _ _ _=>?_;apply Array.ext_getElem?;intro k;simp only[Go.Sort.putCells,Array.getElem?_mapIdx,Array.getElem?_setIfInBounds,List.size_toArray,xh];by_cases hk:off=k
  .subst hk;rw[z7 rfl];by_cases hc:off<c.size
   .rw[z7 hc,xg hc,z_,z_,z7 (by omega),z8 (by omega),xQ];simp
   .rw[z8 hc,Array.getElem?_eq_none (by omega)];rfl
  .rw[z8 hk];cases h:c[k]? with
   |none=>rfl
   |some x =>
    simp only[z_,x6];by_cases h1:off+1<=k/\k<off+1+ys.length
    .rw[z7 h1,z7 (by omega)];have e:k-off=(k-(off+1))+1:=by omega
     rw[e];simp
    .rw[z8 h1,z8 (by omega)]
theorem SD {h:Heap}:∀ (xs:List Int),Rows (KC h (.i .i64)) xs (xs.map (Value.int .i64))
 |[]=>.nil
 |x::xs=>.cons (c:=[.int .i64 x]) rfl (SD xs)
theorem BW {h:Heap}:∀ {xs:List Int}{cs:List Value},Rows (KC h (.i .i64)) xs cs->cs=xs.map (Value.int .i64)
 |[],_,.nil=>rfl
 |x::xs,_,.cons hc ht=>by have hc:_=[Value.int .i64 x]:=hc;rw[hc,BW ht];rfl
theorem SQ {ρ:Plc}{n:Nat}:∀ (xs:List Int),LRel ρ n (xs.map (Value.int .i64)) (xs.map (Value.int .i64))
 |[]=>LRel.nil _ _
 |x::xs=>LRel.cons (.int _ _) (SQ xs)
theorem Q0v {h:Heap}(ys:List Int) {c:List Value}(hl:ys.length<=c.length):Rows (KC h (.i .i64)) ys ((Yq c 0 (ys.map (Value.int .i64))).take (ys.length*(Kind.i .i64).size)):=by
 have ck:(ys.map (Value.int .i64)).length=ys.length:=by rw[List.length_map]
 rw[VQ (by omega),ck];simp only[Kind.size,wT,wF,xj];rw[List.take_append_of_le_length (by omega),zx (by omega)];exact SD _
theorem VCalled.of_same {P:Program}{f:FuncId}{args:List Value}{M:Heap}{K:Value->Heap->Prop}(he:Jh P f) (ha:args.all QN=true)
  (h:∀ w,Calls P f args.toArray w λe w'=>e=.returned (.tuple #[])/\w'=w) (hK:K (.tuple #[]) M):VCalled P f args M K:=by
 intro ρ w aw hH hL;obtain rfl:=E7 ha hL;refine .inl ⟨λw=>Yp he _ w,(h w).mono λe w' ⟨h1,h2⟩=>?_⟩;subst h2;exact⟨_,h1,.tuple #[],ρ,M,hK,.tuple _ _ rfl (λi h1 _=>by simp at h1),hH,Ext.refl _ _ _⟩
theorem VCalled.q2o {P:Program}{f:FuncId}{i cap ty:Nat}{xs:List Int}{c:List Value}{t:Bool}{M:Heap}{K:Value->Heap->Prop}(g:List Int->List Int) (hg:(g xs).length=xs.length) (he:Jh P f)
  (h:∀ (blk off cap:Nat) (w:World),Go.Sort.Holds (Value.int .i64) w blk off xs.toArray->blk<w.heap.size->Calls P f #[.slice (some ⟨blk,off,none⟩) xs.length cap] w λe w'=>e=.returned (.tuple #[])/\∃ n os,w'=Go.Sort.grow (Go.Sort.putRow (Value.int .i64) (Go.Sort.ahead w n) blk off (g xs).toArray) os)
  (hb:M.get i=some (.cells c ⟨1,ty⟩ true t)) (h0:0<xs.length) (cM:xs.length<=cap) (hl:cap<=c.length) (hr:c.take xs.length=xs.map (Value.int .i64))
  (hK:K (.tuple #[]) (M.upd i (.cells (Yq c 0 ((g xs).map (Value.int .i64))) ⟨1,ty⟩ true t))):VCalled P f [.slice (some ⟨i,0,none⟩) xs.length cap] M K:=by
 intro ρ w aw hH hL;obtain⟨p,hp,hB⟩:=hH.live i _ hb;have dH:=hB;obtain⟨h1,h2,h3,⟨C,e,fr,h4,g_⟩,h5,h6⟩:=hB;have aB:aw.size=1:=by have:=hL.1;simpa using this.symm
 obtain⟨u,rfl⟩:∃ u,aw=#[u]:=⟨aw[0],by
  apply Array.ext (by simpa using aB);intro j ki dA;obtain rfl:j=0:=by simp at dA;omega
  rfl⟩
 have hu:=hL.2 0 _ u rfl rfl;cases hu with
 |sl _ _ _ _ a au hi aQ =>
  obtain⟨q1,q2,⟨_,q5⟩|⟨o',rfl,q3,q4⟩⟩:=aQ p hp
  .omega
  have hz:p.esz.sz=1:=by rw[h1]
  have bC:xs.length=0\/o'=0:=by omega
  have mK:Go.Sort.Holds (Value.int .i64) w p.blk (p.shift+o') xs.toArray:=λj hj=>by
   simp only[List.size_toArray] at hj;obtain rfl:o'=0:=by omega
   have s5:c[j]?=some (.int .i64 xs[j]):=by
    have e1:(c.take xs.length)[j]?=(xs.map (Value.int .i64))[j]?:=by rw[hr]
    rw[zO,z7 hj,zU,z1 hj] at e1;exact e1
   obtain⟨u,vC,kS⟩:=h5 j _ s5;cases kS;refine⟨?_,(h6 rfl).2 j (by have:=(zg.1 s5).1;omega)⟩;rw[zK,vC];simp[hj]
  refine .inl ⟨λw=>Yp he _ w,(h p.blk (p.shift+o') au w mK (hH.lt i p hp)).mono λe w' ⟨iv,n,os,gS⟩=>?_⟩;subst gS;have hlen:((g xs).map (Value.int .i64)).length=xs.length:=by rw[List.length_map,hg]
  obtain⟨k1,k2⟩:=hH.store hp hb (o:=0) (SQ (g xs)) (by omega);have hw:Go.Sort.putRow (Value.int .i64) w p.blk (p.shift+o') (g xs).toArray=w.setCells p.blk (p.shift+0) ((g xs).map (Value.int .i64)):=by
   rw[N_];rcases bC with h0|h0
   .have:g xs=[]:=x4.1 (by omega);rw[this];rfl
   .rw[h0]
  rw[Go.Sort.putRow_ahead,hw];have hold:∀ k,k<(w.setCells p.blk (p.shift+0) ((g xs).map (Value.int .i64))).heap.size->(Go.Sort.grow (Go.Sort.ahead (w.setCells p.blk (p.shift+0) ((g xs).map (Value.int .i64))) n) os).heap[k]?=(w.setCells p.blk (p.shift+0) ((g xs).map (Value.int .i64))).heap[k]?:=λk hk =>
   Go.Sort.heap_grow_old _ os (by simpa using hk)
  have aF:(w.setCells p.blk (p.shift+0) ((g xs).map (Value.int .i64))).heap.size<=(Go.Sort.grow (Go.Sort.ahead (w.setCells p.blk (p.shift+0) ((g xs).map (Value.int .i64))) n) os).heap.size:=by simp
  refine⟨_,iv,.tuple #[],ρ,_,hK,.tuple _ _ rfl (λi h1 _=>by simp at h1),k1.world aF (λi p hp=>hold _ (k1.lt i p hp)) (λg cs hg=>hold _ (k1.tab.lt hg)),k2.trans ⟨rfl,rfl,rfl,aF,λB hB _=>hold B hB,λ_ _ h=>h,ze _,λ_ _ _ h=>h⟩⟩
theorem Q0u {P:Program}{ρ0:Go.Shelf.Ren}{f ty:Nat}{ap:Ap}(L:Go.Proofs.Lays.n189 P ρ0) (he:Jh P f) (hf:ρ0.f 189=f) {al:AL Unit}(qP:al=.nil) {pre:List Int->Bool->Unit->Prop}(hp:∀ xs nl d,pre xs nl d->(nl=false->0<xs.length)/\xs.length<=1000000) :
  XOk P f (Q57 ap (Fb ty (.i .i64) al pre (λ_ _ _=>.tup []) (λxs _ _=>xs.mergeSort λx y=>decide (x<=y)))):=by
 subst hf;subst qP;intro B F pl tb s env M d args vs K R hG ha hx hK;unfold Q57 at hx;split at hx
 .rename_i a args;split at hx
  .rename_i o bG;cases iB:((Q9 s.own o).ret&&Z5p a (Q9 s.own o)) with
   |false=>rw[iB] at hx;exact hx.elim
   |true =>
   rw[iB] at hx;simp only[zj] at hx;simp only[z6] at iB;obtain⟨oJ,fH⟩:=iB;split at hx
   .rename_i c v b' cq;cases bW:(v.ret 0&&b'.ret) with
    |false=>rw[bW] at hx;exact hx.elim
    |true =>
    rw[bW] at hx;obtain⟨hc,hx⟩:=hx;simp only[SRs] at ha;obtain⟨u,us,rfl,pQ,dp⟩:=ha;have aq:=OB.q2j oJ;have ao:=hG.obj o;unfold Fb at cq;split at cq
    .rename_i gf k' vD nl aJ;split at cq
     .rename_i e;subst e;split at cq
      .rename_i xs dd h1 h2;obtain⟨rfl,rfl,rfl⟩:=(by simpa using cq:pre xs nl dd=c/\SV.tup []=v/\OB.lst gf (.i .i64) (xs.mergeSort λx y=>decide (x<=y)) nl=b');unfold Ue at h1;split at h1
       .rename_i e;subst e;have h1:xs=vD:=(osj h1).symm;subst h1;have ax:args=[]:=by
         cases args with
         |nil=>rfl
         |cons b l=>simp[BM,Z5h,He,AL.dec] at h2
        subst ax;have dp:us=[]:=dp;subst dp;rw[aJ] at fH;have hu:u=pl o:=by
         unfold Z5x at bG;split at bG
         .obtain rfl:=osj bG;exact pQ.1
         .cases fH
         .cases bG
        subst hu;have hlen:=hp _ _ _ hc;rw[aJ] at ao;rcases ao with⟨rfl,rfl,h3⟩|⟨rfl,i,cap,c,t,h3,h4,h5,h6,h7⟩
        .rw[h3];refine VCalled.of_same he rfl (λw=>Go.Proofs.Any.slices_Sort_int_none L none 0 w) ?_
         .refine hK _ _ B F pl tb (.tuple #[]) M hx (GBase.of hG.bf (Dead.refl _)) (hG.writeF o (.lst gf (.i .i64) (([]:List Int).mergeSort λx y=>decide (x<=y)) true) hG.le aq (λ_ _ _ _ _=>rfl) (.inl ⟨rfl,by simp,h3⟩)).1 ?_;simp only[SR,SRs];exact⟨[],rfl,rfl⟩
        .rw[h3];have bc:F.get i=none:=hG.fresh o i aq (by rw[h3];rfl);have aZ:∀ j i',j≠o->(Q9 s.own j).live=true->Oid (pl j) i'->i'≠i:=λj i' hj hl hi e=>by
          subst e;exact hG.sep j o i' hj hl aq hi (by rw[h3];rfl)
         have s6:cap<=c.length:=by simpa [Kind.size] using h6
         have vE:c.take xs.length=xs.map (Value.int .i64):=by have:=BW h7;simpa [Kind.size] using this
         refine VCalled.q2o (λxs=>xs.mergeSort λx y=>decide (x<=y)) (List.length_mergeSort _) he (λblk off cap w hH hb=>Go.Proofs.Any.slices_Sort_int L blk off cap xs w hH hb (by omega)) h5 (hlen.1 rfl) h4 s6 vE ?_;refine hK _ _ B F pl tb (.tuple #[]) _ hx (GBase.of hG.bf (Dead.upd _ _ _ (by rw[h5];rfl))) (hG.writeF o (.lst gf (.i .i64) (xs.mergeSort λx y=>decide (x<=y)) false) (hG.le.upd bc _) aq (λj i' hj hl hi=>Heap.q0b _ _ (aZ j i' hj hl hi)) (.inr ⟨rfl,i,cap,_,t,by rw[h3,List.length_mergeSort],by rw[List.length_mergeSort];exact h4,Heap.q0c _ _ (M.lt h5),by rw[JT];exact h6,?_⟩)).1 ?_
         .exact Q0v _ (by rw[List.length_mergeSort];exact zY h4 s6)
         .simp only[SR,SRs];exact⟨[],rfl,rfl⟩
       .cases h1
      .cases cq
     .cases cq
    .cases cq
   .exact hx.elim
  .exact hx.elim
 .exact hx.elim
end Go.V
namespace Go.Proofs.Tryz
open Go Go.V Go.Proofs
abbrev Q93 (l:List Int):List Int:=l.mergeSort λx y=>decide (x<=y)
def ZU (hk:Int) (cs:List V8) (cl:List Int) (fa:Int):List Int :=
 ((List.range cs.length).map λ(a:Nat)=>(a:Int)).filter λa=>(List.range (fa.toNat+1)).any λf=>!(wyK cs.length fa.toNat (λk=>wvB hk cs cl k) cl.length (a,(f:Int))==0)
theorem Be {hk:Int}{cs:List V8}{cl:List Int}{fa:Int}(hn:0<cs.length) {a:Int}:a∈ZU hk cs cl fa<->∃ f,wyK cs.length fa.toNat (λk=>wvB hk cs cl k) cl.length (a,f)≠0:=by
 unfold ZU;rw[zX,zE,xu];constructor
 .rintro⟨_,f,_,h⟩;exact⟨(f:Int),by simpa using h⟩
 .rintro⟨f,h⟩;have hg:=JI.1 (Se _ _ _ hn _ _ h);dsimp only at hg;refine⟨⟨a.toNat,zD.2 (by omega),by omega⟩,f.toNat,zD.2 (by omega),?_⟩;rw[show ((f.toNat:Nat):Int)=f by omega];simpa using h
theorem UC (hk:Int) (cs:List V8) (cl:List Int) (fa:Int):(ZU hk cs cl fa).Pairwise (·<·):=by
 unfold ZU;refine List.Pairwise.filter _ (wO.2 (List.pairwise_lt_range.imp λh=>by omega))
theorem BB:∀ {l m:List Int},l.Pairwise (·<·)->m.Pairwise (·<·)->(∀ x,x∈l<->x∈m)->l=m
 |[],[],_,_,_=>rfl
 |[],y::m,_,_,h=>by have:=(h y).2 (zu ..);cases this
 |x::l,[],_,_,h=>by have:=(h x).1 (zu ..);cases this
 |x::l,y::m,hl,hm,h=>by
  rw[wN] at hl hm;have e:x=y:=by
   rcases zn.1 ((h x).1 (zu ..)) with e|e
   .exact e
   .rcases zn.1 ((h y).2 (zu ..)) with e2|e2
    .exact e2.symm
    .have:=hm.1 x e;have:=hl.1 y e2;omega
  subst e;have:l=m:=BB hl.2 hm.2 λz=>by
   have hz:=h z;rw[zn,zn] at hz;constructor
   .intro fF;rcases hz.1 (.inr fF) with e|e
    .have:=hl.1 z fF;omega
    .exact e
   .intro s7;rcases hz.2 (.inr s7) with e|e
    .have:=hm.1 z s7;omega
    .exact e
  rw[this]
theorem LG (k:Int):∀ (m:List (Int×Bool)),(m.map (·.1)).Nodup->((TB (.i .i64) m k true).map (·.1)).Nodup/\∀ x,x∈(TB (.i .i64) m k true).map (·.1)<->x=k\/x∈m.map (·.1)
 |[],_=>⟨List.pairwise_singleton _ _,λx=>by show x∈[k]<->_;simp⟩
 |(a,b)::m,hn=>by
  rw[zJ,xt] at hn;obtain⟨h1,h2⟩:=LG k m hn.2;by_cases hk:k=a
  .subst hk;have e:TB (.i .i64) ((k,b)::m) k true=(k,true)::m:=by
    show (if gq.keq (.i .i64) k k=true then (k,true)::m else _)=_;rw[z7 (show gq.keq (.i .i64) k k=true from by show ((k:Int)==k)=true;simp)]
   rw[e,zJ,zJ];refine⟨xt.2 hn,λx=>?_⟩;simp only[zn];constructor
   .rintro (h|h)
    .exact .inl h
    .exact .inr (.inr h)
   .rintro (h|h|h)
    .exact .inl h
    .exact .inl h
    .exact .inr h
  .have e:TB (.i .i64) ((a,b)::m) k true=(a,b)::TB (.i .i64) m k true:=by
    show (if gq.keq (.i .i64) k a=true then _ else (a,b)::TB (.i .i64) m k true)=_;rw[z8 (show ¬ gq.keq (.i .i64) k a=true from λh=>hk (by have h:((k:Int)==a)=true:=h;exact eq_of_beq h))]
   rw[e,zJ,zJ];refine⟨xt.2 ⟨λhm=>?_,h1⟩,λx=>?_⟩
   .rcases (h2 a).1 hm with h|h
    .exact hk h.symm
    .exact hn.1 h
   .rw[zn,h2 x,zn];constructor
    .rintro (h|h|h)
     .exact .inr (.inl h)
     .exact .inl h
     .exact .inr (.inr h)
    .rintro (h|h|h)
     .exact .inr (.inl h)
     .exact .inl h
     .exact .inr (.inr h)
theorem Ba {α:Type}[BEq α] [LawfulBEq α]:∀ {l m:List α},l.Nodup->(∀ x∈l,x∈m)->l.length<=m.length
 |[],_,_,_=>Nat.zero_le _
 |x::l,m,hn,hs=>by rw[xt] at hn;have hx:x∈m:=hs x (zu ..);have:=Ba (l:=l) (m:=m.erase x) hn.2 λy hy=>(List.mem_erase_of_ne (by rintro rfl;exact hn.1 hy)).2 (hs y (zi _ hy));rw[List.length_erase_of_mem hx] at this;have:=List.length_pos_of_mem hx;rw[xh];omega
theorem LoopP.rng2 {X:Type}{F:List Nat×X->(List Nat×X->Prop)->Prop}(n:Nat) (J:X->List Nat->Prop) {x0:X}(h0:J x0 [])
  (hr:∀ (x:X) (dn:List Nat),dn.Nodup->(∀ r∈dn,r<n)->J x dn->∀ q:List Nat×X->Prop,(∀ (r:Nat) (x':X),r<n->r∉dn->J x' (dn++[r])->q (dn++[r],x'))->F (dn,x) q):LoopP F ([],x0):=by
 refine⟨λd=>d.1.Nodup/\(∀ r∈d.1,r<n)/\J d.2 d.1,λd=>n-d.1.length,⟨List.nodup_nil,(λr hr=>by cases hr),h0⟩,λ⟨dn,x⟩ ⟨h1,h2,h3⟩=>?_⟩;have h1:dn.Nodup:=h1;have h2:∀ r∈dn,r<n:=h2;refine hr x dn h1 h2 h3 _ λr x' ah gm hJ=>?_;have hn:=Bt h1 gm;have hb:∀ y∈dn++[r],y<n:=λy hy=>by
  rcases zQ.1 hy with h|h
  .exact h2 y h
  .rw[zo] at h;omega
 refine⟨⟨hn,hb,hJ⟩,?_⟩;have:=MS hn (m:=List.range n) λy hy=>zD.2 (hb y hy);rw[wP,zI,xr] at this;have e:(dn++[r]).length=dn.length+1:=by simp
 show n-(dn++[r]).length<n-dn.length;omega
def KeyW (n:Nat) (m:List ((Int×Int)×Int)) (x:List (Int×Bool)) (dn:List Nat):Prop:=(x.map (·.1)).Nodup/\∀ a,a∈x.map (·.1)<->∃ r∈dn,(m.getD r ((0,0),0)).1.1=a
theorem KeyW.snoc {n:Nat}{m:List ((Int×Int)×Int)}{x:List (Int×Bool)}{dn:List Nat}(h:KeyW n m x dn) (r:Nat):KeyW n m (TB (.i .i64) x (m.getD r ((0,0),0)).1.1 true) (dn++[r]):=by
 obtain⟨h1,h2⟩:=LG (m.getD r ((0,0),0)).1.1 x h.1;refine⟨h1,λa=>?_⟩;rw[h2 a,h.2 a];constructor
 .rintro (rfl|⟨s,hs,rfl⟩)
  .exact⟨r,by simp,rfl⟩
  .exact⟨s,xX _ hs,rfl⟩
 .rintro⟨s,hs,rfl⟩;rcases zQ.1 hs with hs|hs
  .exact .inr ⟨s,hs,rfl⟩
  .rw[zo] at hs;subst hs;exact .inl rfl
theorem KeyW.len {n mo:Nat}{m:List ((Int×Int)×Int)}{W:Int×Int->Int}(hm:MapW n mo m W) {x:List (Int×Bool)}{dn:List Nat}(ah:∀ r∈dn,r<m.length) (h:KeyW n m x dn):x.length<=n:=by
 have:=Ba (l:=x.map (·.1)) (m:=(List.range n).map λ(a:Nat)=>(a:Int)) h.1 λa ha=>by
  obtain⟨r,hr,rfl⟩:=(h.2 a).1 ha;have dE:=ah r hr;rw[Qh dE];have hg:=JI.1 (hm.2.1 _ (zp dE)).2.2;exact zE.2 ⟨(m[r].1.1).toNat,zD.2 (by omega),by omega⟩
 simpa using this
theorem KeyW.all {hk:Int}{cs:List V8}{cl:List Int}{fa:Int}(hn:0<cs.length) {m:List ((Int×Int)×Int)}(hm:MapW cs.length fa.toNat m (wyK cs.length fa.toNat (λk=>wvB hk cs cl k) cl.length)) {x:List (Int×Bool)}{dn:List Nat}(ah:∀ r∈dn,r<m.length) (h:KeyW cs.length m x dn) (ae:∀ r,r<m.length->r∈dn) (a:Int):a∈x.map (·.1)<->a∈ZU hk cs cl fa:=by
 rw[h.2 a,Be hn];constructor
 .rintro⟨r,hr,rfl⟩;have dE:=ah r hr;rw[Qh dE];have he:=hm.2.1 _ (zp dE);refine⟨m[r].1.2,?_⟩;have:(m[r].1.1,m[r].1.2)=m[r].1:=rfl;rw[this,<-he.1];omega
 .rintro⟨f,hf⟩;obtain⟨e,he,hq⟩:=hm.2.2 (a,f) hf;obtain⟨r,hr,rfl⟩:=List.getElem_of_mem he;exact⟨r,ae r hr,by rw[Qh hr,hq]⟩
theorem Es {l:List Int}(h:l.Nodup):(l.mergeSort λx y=>decide (x<=y)).Pairwise (·<·):=by
 have h1:=List.pairwise_mergeSort (le:=λx y:Int=>decide (x<=y)) (λa b c h1 h2=>by simp at *;omega) (λa b=>by simp;omega) l;have h2:=(List.mergeSort_perm l λx y:Int=>decide (x<=y)).nodup_iff.2 h;exact List.Pairwise.imp₂ (λa b (h1:decide (a<=b)=true) (h2:a≠b)=>by simp at h1;omega) h1 h2
theorem KeyW.sorted {hk:Int}{cs:List V8}{cl:List Int}{fa:Int}(hn:0<cs.length) {m:List ((Int×Int)×Int)}(hm:MapW cs.length fa.toNat m (wyK cs.length fa.toNat (λk=>wvB hk cs cl k) cl.length)) {x:List (Int×Bool)}{dn:List Nat}(ah:∀ r∈dn,r<m.length) (h:KeyW cs.length m x dn) (ae:∀ r,r<m.length->r∈dn)
  {d2:List Nat}(pZ:d2.Nodup) (lG:∀ r∈d2,r<x.length) (rR:∀ r,r<x.length->r∈d2):(d2.map λr=>(x.getD r (0,false)).1).mergeSort (λx y=>decide (x<=y))=ZU hk cs cl fa:=by
 have hx:∀ r,r<x.length->(x.getD r (0,false)).1=(x.map (·.1)).getD r 0:=λr hr=>by
  rw[Qh hr,Qh (by simpa using hr),xS]
 have pa:(d2.map λr=>(x.getD r (0,false)).1).Nodup:=wO.2 (List.Pairwise.imp_of_mem (λ{a b} ha hb az e=>by
  rw[hx a (lG a ha),hx b (lG b hb)] at e;have la:a<(x.map (·.1)).length:=by simpa using lG a ha
  have lb:b<(x.map (·.1)).length:=by simpa using lG b hb
  rw[Qh la,Qh lb] at e;exact az ((List.getElem_inj h.1).1 e)) pZ)
 refine BB (Es pa) (UC ..) λz=>?_;rw[(List.mergeSort_perm _ _).mem_iff,<-KeyW.all hn hm ah h ae z,zE,zE];constructor
 .rintro⟨r,hr,rfl⟩;have:=lG r hr;exact⟨x[r],zp this,by rw[Qh this]⟩
 .rintro⟨e,he,rfl⟩;obtain⟨r,hr,rfl⟩:=List.getElem_of_mem he;exact⟨r,rR r hr,by rw[Qh hr]⟩
def Nq:AL (Unit):=.nil
def Uw (xs:List Int) (nl:Bool) (d:Unit):Prop:=(nl=false->0<xs.length)/\xs.length<=1000000
def UI (xs:List Int) (nl:Bool) (d:Unit):SV:=.tup []
def U1 (xs:List Int) (nl:Bool) (d:Unit):List Int:=(Q93 xs)
def Yt:XSp:=Q57 NF (Fb 3 (.i .i64) Nq Uw UI U1)
abbrev N9:Prop:=XOk Tryz.prog 120 Yt
theorem UL:N9:=Q0u Tryz.lays189 fun120.enterable rfl rfl λ_ _ _ h=>h
def Gj:AL ((Int×List (Int×Int×Bool))×List Int×Int):=(.cons (.agg (.cons (.k (.i .i64)) (.one (.k (.list (.pair (.i .i64) (.pair (.i .i64) .bo))))))) (.cons (.k (.list (.i .i64))) (.one (.k (.i .i64)))))
def T6 (d:(Int×List (Int×Int×Bool))×List Int×Int):Prop:=QF d.1.1 d.1.2=0/\d.2.1.length<=60/\(∀ r∈d.2.1,-1<=r/\r<2 ^ d.1.1.toNat)/\0<=d.2.2/\d.2.2<=6
def NO (d:(Int×List (Int×Int×Bool))×List Int×Int):SV:=.tup [.lst 0,.val (.i .i64) (0:Int)]
def Md (d:(Int×List (Int×Int×Bool))×List Int×Int):List OB:=[.lst 3 (.i .i64) (ZU d.1.1 d.1.2 d.2.1 d.2.2) ((ZU d.1.1 d.1.2 d.2.1 d.2.2).isEmpty)]
def YO:CSp:=V5 Gj T6 NO Md
abbrev L6:=λ(fp:List (Int×Bool)) (fS:List Nat) ij (gh:List Value) (fq:Int) (il:Bool) (kE:List ((Int×Int)×Int)) (jI:List Nat) (kF:List Value) (jJ:List Value) (ft:LpD) (fv:List Int) (fT:_->Prop)=>(( ∃ p5:( List Nat )×( List Int ) ,( ( True/\True/\True )/\( ( fp=fp/\( fS++[ ij ] )=p5.1 )/\( gh=gh/\( True/\True/\True/\True/\True/\True/\True/\True/\True/\fq=fq/\True/\True/\True/\True/\True/\True/\True/\True/\True/\True/\True/\True/\True/\il=il/\True/\True/\True/\True/\True/\True/\( ( ( ( [ ]:List SV )=[ ] ) )/\( True/\( ( [ ]:List SV )=[ ] ) ) )/\True/\True/\( ( [ ]:List SV )=[ ] ) ) )/\( kE=kE/\jI=jI )/\( True/\( ( [ ]:List SV )=[ ] ) )/\( kF=kF/\( ( ( ( ( [ ]:List SV )=[ ] ) )/\( True/\( ( [ ]:List SV )=[ ] ) ) )/\True/\True/\True/\( ( ( ( [ ]:List SV )=[ ] ) )/\( True/\( ( [ ]:List SV )=[ ] ) ) )/\True/\True/\True/\True/\( ( [ ]:List SV )=[ ] ) ) )/\( jJ=jJ/\( ( ( ( ( [ ]:List SV )=[ ] ) )/\( True/\( ( [ ]:List SV )=[ ] ) ) )/\True/\True/\( ( ( ( [ ]:List SV )=[ ] ) )/\( True/\( ( [ ]:List SV )=[ ] ) ) )/\True/\( ( [ ]:List SV )=[ ] ) ) )/\( ft=ft/\( True/\( ( ( ( [ ]:List SV )=[ ] ) )/\( True/\( ( [ ]:List SV )=[ ] ) ) )/\True/\True/\True/\True/\( ( ( ( [ ]:List SV )=[ ] ) )/\( True/\( ( [ ]:List SV )=[ ] ) ) )/\True/\True/\True/\True/\True/\True/\( ( [ ]:List SV )=[ ] ) ) )/\( True/\( ( [ ]:List SV )=[ ] ) )/\( ( fv++[ ( List.getD fp ( List.getLastD ( fS++[ ij ] ) 0 ) ( 0 ,false ) ).1 ] )=p5.2/\false=( List.isEmpty p5.2 ) )/\True ) )/\fT p5 ):Prop)
abbrev Pj:=λ(hk:Int) (cs:List (Int×Int×Bool)) (cl:List Int) (fa:Int) fp (fS:List Nat) (ij:LpD) (gh:LpD) (fq:List Int) (il:List (Int×Bool)) (kE:List Value) (jI:List Value) (kF:List Value) (jJ:List Value) (ft:List Value) (fv:List Value) (fT:Int) (kG:Bool) (kH:List ((Int×Int)×Int)) (mL:List Nat) (kI:_->Prop) (pb:Nat)=>(fp∉fS->( true=true->( ( fS++[ fp ] )≠[ ] )/\ij=gh/\∀ pc:List Value ,( ( ( List.length fq )+( List.length [ ( List.getD il ( List.getLastD ( fS++[ fp ] ) 0 ) ( 0 ,false ) ).1 ] ) )*8<=70368744177664 )/\pc=pc/\ij=gh/\( ( ! true )=true->ij=gh/\kE=jI/\kF=jJ/\( ( false=false->0<( fq++[ ( List.getD il ( List.getLastD ( fS++[ fp ] ) 0 ) ( 0 ,false ) ).1 ] ).length )/\( fq++[ ( List.getD il ( List.getLastD ( fS++[ fp ] ) 0 ) ( 0 ,false ) ).1 ] ).length<=1000000 )/\ft=fv/\( ( True/\fT=( 0:Int )/\( ( [ ]:List SV )=[ ] ) )/\( ( ( Q93 ( fq++[ ( List.getD il ( List.getLastD ( fS++[ fp ] ) 0 ) ( 0 ,false ) ).1 ] ) )=( ZU hk cs cl fa )/\false=( ZU hk cs cl fa ).isEmpty )/\True ) ) )/\( ( ! true )=false->( L6 il fS fp ft fT kG kH mL kF kE ij fq kI ) ) )/\( true=false->ij=gh/\kE=jI/\kF=jJ/\( ( ( List.isEmpty fq )=false->0<pb )/\pb<=1000000 )/\ft=fv/\( ( True/\fT=( 0:Int )/\( ( [ ]:List SV )=[ ] ) )/\( ( ( Q93 fq )=( ZU hk cs cl fa )/\( List.isEmpty fq )=( ZU hk cs cl fa ).isEmpty )/\True ) ) ):Prop)
abbrev T7:=λ(hk:Int) (cs:List (Int×Int×Bool)) (cl:List Int) (fa:Int) (fp:List Nat) (fS:LpD) (ij:LpD) (gh:List Int) (fq:List (Int×Bool)) (il:List Value) (kE:List Value) (jI:List Value) (kF:List Value) (jJ:List Value) (ft:List Value) (fv:Int) (fT:Bool) (kG:List ((Int×Int)×Int)) (kH:List Nat) (mL:_->Prop) (kI:Nat)=>(( false=true->( fp≠[ ] )/\fS=ij/\∀ pc:List Value ,( ( ( List.length gh )+( List.length [ ( List.getD fq ( List.getLastD fp 0 ) ( 0 ,false ) ).1 ] ) )*8<=70368744177664 )/\pc=pc/\fS=ij/\( ( ! true )=true->fS=ij/\il=kE/\jI=kF/\( ( false=false->0<( gh++[ ( List.getD fq ( List.getLastD fp 0 ) ( 0 ,false ) ).1 ] ).length )/\( gh++[ ( List.getD fq ( List.getLastD fp 0 ) ( 0 ,false ) ).1 ] ).length<=1000000 )/\jJ=ft/\( ( True/\fv=( 0:Int )/\( ( [ ]:List SV )=[ ] ) )/\( ( ( Q93 ( gh++[ ( List.getD fq ( List.getLastD fp 0 ) ( 0 ,false ) ).1 ] ) )=( ZU hk cs cl fa )/\false=( ZU hk cs cl fa ).isEmpty )/\True ) ) )/\( ( ! true )=false->( ∃ p6:( List Nat )×( List Int ) ,( ( True/\True/\True )/\( ( fq=fq/\fp=p6.1 )/\( jJ=jJ/\( True/\True/\True/\True/\True/\True/\True/\True/\True/\fv=fv/\True/\True/\True/\True/\True/\True/\True/\True/\True/\True/\True/\True/\True/\fT=fT/\True/\True/\True/\True/\True/\True/\( ( ( ( [ ]:List SV )=[ ] ) )/\( True/\( ( [ ]:List SV )=[ ] ) ) )/\True/\True/\( ( [ ]:List SV )=[ ] ) ) )/\( kG=kG/\kH=kH )/\( True/\( ( [ ]:List SV )=[ ] ) )/\( jI=jI/\( ( ( ( ( [ ]:List SV )=[ ] ) )/\( True/\( ( [ ]:List SV )=[ ] ) ) )/\True/\True/\True/\( ( ( ( [ ]:List SV )=[ ] ) )/\( True/\( ( [ ]:List SV )=[ ] ) ) )/\True/\True/\True/\True/\( ( [ ]:List SV )=[ ] ) ) )/\( il=il/\( ( ( ( ( [ ]:List SV )=[ ] ) )/\( True/\( ( [ ]:List SV )=[ ] ) ) )/\True/\True/\( ( ( ( [ ]:List SV )=[ ] ) )/\( True/\( ( [ ]:List SV )=[ ] ) ) )/\True/\( ( [ ]:List SV )=[ ] ) ) )/\( fS=fS/\( True/\( ( ( ( [ ]:List SV )=[ ] ) )/\( True/\( ( [ ]:List SV )=[ ] ) ) )/\True/\True/\True/\True/\( ( ( ( [ ]:List SV )=[ ] ) )/\( True/\( ( [ ]:List SV )=[ ] ) ) )/\True/\True/\True/\True/\True/\True/\( ( [ ]:List SV )=[ ] ) ) )/\( True/\( ( [ ]:List SV )=[ ] ) )/\( ( gh++[ ( List.getD fq ( List.getLastD fp 0 ) ( 0 ,false ) ).1 ] )=p6.2/\false=( List.isEmpty p6.2 ) )/\True ) )/\mL p6 ) ) )/\( false=false->fS=ij/\il=kE/\jI=kF/\( ( ( List.isEmpty gh )=false->0<kI )/\kI<=1000000 )/\jJ=ft/\( ( True/\fv=( 0:Int )/\( ( [ ]:List SV )=[ ] ) )/\( ( ( Q93 gh )=( ZU hk cs cl fa )/\( List.isEmpty gh )=( ZU hk cs cl fa ).isEmpty )/\True ) ) ):Prop)
abbrev YS :=(((([]:List SV)=[]))/\(True/\(([]:List SV)=[])))
abbrev Sg :=(True/\YS/\True/\True/\True/\True/\YS/\True/\True/\True/\True/\True/\True/\(([]:List SV)=[]))
abbrev Sc :=(YS/\True/\True/\True/\YS/\True/\True/\True/\True/\(([]:List SV)=[]))
abbrev Hz :=((0:Int)=(0:Int)/\True/\True/\True)
abbrev G_ :=(True/\(([]:List SV)=[]))
abbrev RY :=(YS/\True/\True/\YS/\True/\(([]:List SV)=[]))
def Ya (hk:Int) (cs:List (Int × Int × Bool)) (cl:List Int) (fa:Int):Prop :=
  (QF hk cs = 0 /\ cl.length <= 60 /\ (∀ r ∈ cl, -1 <= r /\ r < 2 ^ hk.toNat) /\ 0 <= fa /\ fa <= 6) /\ (∀ m1:List ((Int × Int) × Int), (MapW cs.length fa.toNat m1 (wyK cs.length fa.toNat (λk => wvB hk cs cl k) cl.length)) -> ∃ (e4:(List ((Int × Int) × Int))) (d40:(List (Int × Bool)) × (List Nat)), (Hz /\ ((([]:List (Int × Bool)) = d40.1) /\ (m1 = e4 /\ ([]:List Nat) = d40.2) /\ True)) /\
  LoopP (λ(d4:(List (Int × Bool)) × (List Nat)) (q4:((List (Int × Bool)) × (List Nat)) -> Prop) =>
    ((∀ r:Nat, r < (List.length e4) -> r ∈ d4.2) ->
      (false = true ->
        (d4.2 ≠ []) /\ (∃ d6:(List (Int × Bool)) × (List Nat), (Hz /\ (((TB (.i .i64) d4.1 (List.getD e4 (List.getLastD d4.2 0) ((0, 0), 0)).1.1 true) = d6.1) /\ (e4 = e4 /\ d4.2 = d6.2) /\ True)) /\ q4 d6)) /\
      (false = false ->
        ∀ w7:List Value, w7 = w7 /\ ∀ w8:List Value, ∀ w9:List Value, ∀ pg:List Value, ∀ ph:LpD, ∃ (cZ:(List (Int × Bool)) × Int × (List ((Int × Int) × Int)) × (List Nat) × Bool × (List Value) × (List Value) × (List Value) × LpD) (d150:(List Nat) × (List Int)), ((True /\ True /\ True) /\ ((d4.1 = cZ.1 /\ ([]:List Nat) = d150.1) /\ ((pj4 cZ).2.1 = w8 /\ (True /\ True /\ True /\ True /\ True /\ True /\ True /\ True /\ True /\ (0:Int) = cZ.2.1 /\ True /\ True /\ True /\ True /\ True /\ True /\ True /\ True /\ True /\ True /\ True /\ True /\ True /\ false = (pj4 cZ).1 /\ True /\ True /\ True /\ True /\ True /\ True /\ YS /\ True /\ True /\ (([]:List SV) = []))) /\ (e4 = cZ.2.2.1 /\ d4.2 = cZ.2.2.2.1) /\ G_ /\ ((pj4 cZ).2.2.1 = w9 /\ Sc) /\ ((pj4 cZ).2.2.2.1 = pg /\ RY) /\ ((pj8 cZ) = ph /\ Sg) /\ G_ /\ (d150.2 = [] /\ (List.isEmpty d150.2) = true) /\ True)) /\
        LoopP (λ(d15:(List Nat) × (List Int)) (pV:((List Nat) × (List Int)) -> Prop) =>
          ((∀ r:Nat, r < (List.length cZ.1) -> r ∈ d15.1) ->
             (T7 hk cs cl fa d15.1 (pj8 cZ) ph d15.2 cZ.1 (pj4 cZ).2.2.2.1 pg (pj4 cZ).2.2.1 w9 (pj4 cZ).2.1 w8 cZ.2.1 (pj4 cZ).1 cZ.2.2.1 cZ.2.2.2.1 pV d15.2.length)) /\
          (∀ s8:Nat, s8 < (List.length cZ.1) ->  (Pj hk cs cl fa s8 d15.1 (pj8 cZ) ph d15.2 cZ.1 (pj4 cZ).2.2.2.1 pg (pj4 cZ).2.2.1 w9 (pj4 cZ).2.1 w8 cZ.2.1 (pj4 cZ).1 cZ.2.2.1 cZ.2.2.2.1 pV d15.2.length))) d150)) /\
    (∀ r5:Nat, r5 < (List.length e4) -> r5 ∉ d4.2 ->
      (true = true ->
        ((d4.2 ++ [r5]) ≠ []) /\ (∃ d21:(List (Int × Bool)) × (List Nat), (Hz /\ (((TB (.i .i64) d4.1 (List.getD e4 (List.getLastD (d4.2 ++ [r5]) 0) ((0, 0), 0)).1.1 true) = d21.1) /\ (e4 = e4 /\ (d4.2 ++ [r5]) = d21.2) /\ True)) /\ q4 d21)) /\
      (true = false ->
        ∀ s9:List Value, s9 = s9 /\ ∀ rS:List Value, ∀ rT:List Value, ∀ rU:List Value, ∀ rV:LpD, ∃ (dm:(List (Int × Bool)) × Int × (List ((Int × Int) × Int)) × (List Nat) × Bool × (List Value) × (List Value) × (List Value) × LpD) (d300:(List Nat) × (List Int)), ((True /\ True /\ True) /\ ((d4.1 = dm.1 /\ ([]:List Nat) = d300.1) /\ ((pj4 dm).2.1 = rS /\ (True /\ True /\ True /\ True /\ True /\ True /\ True /\ True /\ True /\ (0:Int) = dm.2.1 /\ True /\ True /\ True /\ True /\ True /\ True /\ True /\ True /\ True /\ True /\ True /\ True /\ True /\ true = (pj4 dm).1 /\ True /\ True /\ True /\ True /\ True /\ True /\ YS /\ True /\ True /\ (([]:List SV) = []))) /\ (e4 = dm.2.2.1 /\ (d4.2 ++ [r5]) = dm.2.2.2.1) /\ G_ /\ ((pj4 dm).2.2.1 = rT /\ Sc) /\ ((pj4 dm).2.2.2.1 = rU /\ RY) /\ ((pj8 dm) = rV /\ Sg) /\ G_ /\ (d300.2 = [] /\ (List.isEmpty d300.2) = true) /\ True)) /\
        LoopP (λ(d30:(List Nat) × (List Int)) (s_:((List Nat) × (List Int)) -> Prop) =>
          ((∀ r:Nat, r < (List.length dm.1) -> r ∈ d30.1) ->
             (T7 hk cs cl fa d30.1 (pj8 dm) rV d30.2 dm.1 (pj4 dm).2.2.2.1 rU (pj4 dm).2.2.1 rT (pj4 dm).2.1 rS dm.2.1 (pj4 dm).1 dm.2.2.1 dm.2.2.2.1 s_ d30.2.length)) /\
          (∀ ta:Nat, ta < (List.length dm.1) ->  (Pj hk cs cl fa ta d30.1 (pj8 dm) rV d30.2 dm.1 (pj4 dm).2.2.2.1 rU (pj4 dm).2.2.1 rT (pj4 dm).2.1 rS dm.2.1 (pj4 dm).1 dm.2.2.1 dm.2.2.2.1 s_ d30.2.length))) d300))) d40)
def QS:Cx:=⟨[],[],4,[],0,[],[],[],[],false,[],[],[],[]⟩
def QR:List (Nat×LoopAnn):=[]
def Q6:Cx:=⟨[],[],14,[],0,[],[],[],[],false,[],[],[],[]⟩
def Q5:List (Nat×LoopAnn):=[(0,⟨(List (Int×Bool))×Int×(List ((Int×Int)×Int))×(List Nat)×Bool×(List Value)×(List Value)×(List Value)×LpD,(List Nat)×(List Int),[0,5],λe x=>[.dd 32000060002500000 .yv,.box 3200006000250000100005 0],λe x=>[(3200006000250000100005,.slot 5,.iter (.i .i64) .bo e.1 x.1),(3199999,.key 3199999,.stk [.any,.any,.any,.any,.any,.any,.any,.any,.any,.val (.i .i64) e.2.1,.any,.any,.any,.any,.any,.any,.any,.any,.any,.any,.any,.box 21 0,.any,.val .bo e.2.2.2.2.1,.any,.any,.any,.any,.any,.any,.fn 121 [] [.box 3100001 0],.any,.any] e.2.2.2.2.2.1),(21,.key 21,.iter (.pair (.i .i64) (.i .i64)) (.i .i64) e.2.2.1 e.2.2.2.1),(3100001,.key 3100001,.cells [.any] (some 122)),(320000599999,.key 320000599999,.stk [.fn 121 [] [.box 3100001 0],.any,.nilS,.any,.fn 121 [] [.box 3100001 0],.any,.any,.any,.any] e.2.2.2.2.2.2.1),(32000060000499999,.key 32000060000499999,.stk [.fn 121 [] [.box 3100001 0],.any,.nilS,.fn 121 [] [.box 3100001 0],.any] e.2.2.2.2.2.2.2.1),(32000060002500000,.key 32000060002500000,.lpf [.nilS,.fn 121 [] [.box 3100001 0],.box 32000060000500002 0,.any,.nilS,.any,.fn 121 [] [.box 3100001 0],.any,.any,.any,.any,.any,.any] e.2.2.2.2.2.2.2.2 .rdy),(32000060000500002,.key 32000060000500002,.cells [.lst 32000060000500011] (some 27)),(32000060000500011,.cell 32000060000500002 0,.lst 3 (.i .i64) x.2 (List.isEmpty x.2))]⟩)]
def Qe:Cx:=⟨[(3,(.i .i64))],[],13,[],0,[],[],[],[],false,[],[(121,Z5f Q6 Q5 Z24 14)],[],[]⟩
def Qf:List (Nat×LoopAnn):=[]
def Qz:Cx:=⟨[],[],5,[],0,[(146,Q0f Qe (λ_=>Qf) Z1p [.tmp 4] 13)],[],[],[],false,[],[],[],[]⟩
def QB:List (Nat×LoopAnn):=[]
def J6:Cx:=⟨[],[],9,[],0,[(119,Q0f Qz (λ_=>QB) Z1j [.tmp 2] 5),(120,Yt)],[],[],[],false,[],[],[],[]⟩
def J9:List (Nat×LoopAnn):=[]
def Gg:Cx:=⟨[(1000019,(.pair (.i .i64) .bo))],[],33,[],0,[(79,K2),(81,Q0f QS (λ_=>QR) c81 [.tmp 2] 4),(80,Q0f J6 (λ_=>J9) c80 [.tmp 2] 9)],[],[],[],false,[],[],[],[]⟩
def TG (hk:Int) (cs:List (Int×Int×Bool)) (cl:List Int) (fa:Int):List (Nat×LoopAnn):=[(0,⟨(List ((Int×Int)×Int)),(List (Int×Bool))×(List Nat),[9,10,21],λe x=>[.val (.i .i64) (0:Int),.map 19,.box 21 0],λe x=>[(19,.slot 10,.map (.i .i64) .bo x.1),(21,.slot 21,.iter (.pair (.i .i64) (.i .i64)) (.i .i64) e x.2)]⟩)]
theorem Tv (d:(Int×List (Int×Int×Bool))×List Int×Int):gwp (Gg) (TG d.1.1 d.1.2 d.2.1 d.2.2) c28 0 (VF [.tmp 6,.tmp 7] (NO d) (Md d)) (Qx 33 (AL.can Gj d))=Ya d.1.1 d.1.2 d.2.1 d.2.2:=by kernel_rfl
abbrev TJ:Prop:=OkC Tryz.prog 28 YO
theorem TA (h:∀ (hk:Int) (cs:List (Int×Int×Bool)) (cl:List Int) (fa:Int),(QF hk cs=0/\cl.length<=60/\(∀ r∈cl,-1<=r/\r<2 ^ hk.toNat)/\0<=fa/\fa<=6)->Ya hk cs cl fa):OkC Tryz.prog 28 YO :=
 Z5 Q6l mixed (C:=Gg) (V:=λ(d:(Int×List (Int×Int×Bool))×List Int×Int)=>Ya d.1.1 d.1.2 d.2.1 d.2.2) ⟨.nil,(XsOk.cons NY (XsOk.cons (M1 Q6u mixed (C:=QS) ⟨.nil,XsOk.nil,ItsOk.nil,YlOk.nil,IysOk.nil,XfOk.nil⟩ (λ_=>QR)) (XsOk.cons (M1 Q6i mixed (C:=J6) ⟨.nil,(XsOk.cons (M1 OH mixed (C:=Qz) ⟨.nil,(XsOk.cons (M1 IJ mixed (C:=Qe) ⟨.nil,XsOk.nil,ItsOk.nil,YlOk.nil,(IysOk.cons (Q5n FU mixed (C:=Q6) ⟨.nil,XsOk.nil,ItsOk.nil,YlOk.nil,IysOk.nil,XfOk.nil⟩ Q5) IysOk.nil),XfOk.nil⟩ (λ_=>Qf)) XsOk.nil),ItsOk.nil,YlOk.nil,IysOk.nil,XfOk.nil⟩ (λ_=>QB)) (XsOk.cons UL XsOk.nil)),ItsOk.nil,YlOk.nil,IysOk.nil,XfOk.nil⟩ (λ_=>J9)) XsOk.nil))),ItsOk.nil,YlOk.nil,IysOk.nil,XfOk.nil⟩ (Tv) λd hp=>h d.1.1 d.1.2 d.2.1 d.2.2 hp
def fK (st:List Int):Nat->Int
 |0=>0
 |k+1=>fK st k+ftC (st.getD k 0)
def CrO (n:Nat) (W:Nat->Int->Bool) (a:Int) (st:List Int):Prop:=(0<=a/\a<(n:Int))/\∀ i,i<st.length->(0<=st.getD i 0/\st.getD i 0<=2)/\W i (atK n a st i)=true
theorem CrO.at_ {n:Nat}{W:Nat->Int->Bool}{a:Int}{st:List Int}(h:CrO n W a st) (k:Nat) (hk:k<=st.length):0<=atK n a st k/\atK n a st k<n :=
 FZ (by have:=h.1;omega) h.1.1 h.1.2 k λj hj=>(h.2 j (by omega)).1.1
theorem Fv (st:List Int) (j:Nat):∀ k,fK st j<=fK st (j+k)
 |0=>Int.le_refl _
 |k+1=>by have h1:=Fv st j k;have h2:=(LW (st.getD (j+k) 0)).1;show fK st j<=fK st (j+k)+ftC (st.getD (j+k) 0);omega
theorem Q67 {st:List Int}{j k:Nat}(h:j<=k):fK st j<=fK st k:=by
 have:=Fv st j (k-j)
 rwa [show j+(k-j)=k by omega] at this
theorem CE (st:List Int) (k:Nat):0<=fK st k:=Q67 (j:=0) (Nat.zero_le _)
theorem OG {α:Type}{f:α->Int}:∀ {l:List α}{x:α},x∈l->(∀ y∈l,0<=f y)->f x<=(l.map f).sum
 |y::l,x,hx,h=>by
  rw[zJ,xI];have h0:=h y (zu ..);have h1:=K9 (l:=l) λz hz=>h z (zi _ hz);rcases zn.1 hx with rfl|hx
  .omega
  .have:=OG hx λz hz=>h z (zi _ hz);omega
theorem CrO.ways {n mo:Nat}{W:Nat->Int->Bool}{a:Int}{st:List Int}(h:CrO n W a st) (hf:fK st st.length<=mo):∀ k,k<=st.length->1<=wyK n mo W k (atK n a st k,fK st k)
 |0,_=>by
  have:=h.1;show 1<=if 0<=a/\a<(n:Int)/\(0:Int)=0 then (1:Int) else 0
  rw[z7 ⟨this.1,this.2,rfl⟩];exact Int.le_refl _
 |k+1,hk=>by
  have ih:=h.ways hf k (by omega);have cL:=h.at_ k (by omega);obtain⟨hs,hw⟩:=h.2 k (by omega);have iD:=VN n mo W k;have tc:=Q67 (st:=st) hk;have pM:=CE st k;have jo:fK st (k+1)=fK st k+ftC (st.getD k 0):=rfl;have sR:=LW (st.getD k 0);have hg:(atK n a st k,fK st k)∈Jd n mo:=JI.2 ⟨cL,pM,by dsimp only;omega⟩;refine Int.le_trans ?_ (OG (f:=λp=>RS n mo (W k) p (wyK n mo W k p) (atK n a st (k+1),fK st (k+1))) hg λp _=>GO (iD p));have a_:G8 n (atK n a st k,fK st k) (st.getD k 0)=(atK n a st (k+1),fK st (k+1)):=rfl;have one:B8 n mo (atK n a st k,fK st k) (wyK n mo W k (atK n a st k,fK st k)) (atK n a st (k+1),fK st (k+1)) (st.getD k 0)=wyK n mo W k (atK n a st k,fK st k):=by unfold B8;rw[z7 ⟨a_,by dsimp only;omega⟩]
  have b:=λs=>(VA (n:=n) (mo:=mo) (p:=(atK n a st k,fK st k)) (q:=(atK n a st (k+1),fK st (k+1))) (s:=s) (iD (atK n a st k,fK st k))).1;have b0:=b 0;have b1:=b 1;have b2:=b 2;unfold RS;rw[z7 hw];rcases (show st.getD k 0=0\/st.getD k 0=1\/st.getD k 0=2 by omega) with e|e|e<;>rw[e] at one<;>omega
theorem CrO.q2h {hk:Int}{cs:List V8}{cl:List Int}{fa a:Int}{st:List Int}(h:CrO cs.length (λk=>wvB hk cs cl k) a st) (hm:st.length=cl.length) (hf:fK st st.length<=fa):atK cs.length a st st.length∈ZU hk cs cl fa:=by have h0:=CE st st.length;have:=h.ways (mo:=fa.toNat) (by omega) st.length (ze _);refine (Be (by have:=h.1;omega)).2 ⟨fK st st.length,?_⟩;rw[hm] at this;rw[hm];omega
theorem CrO.count {hk:Int}{cs:List V8}{cl:List Int}{fa a:Int}{st:List Int}(h:CrO cs.length (λk=>wvB hk cs cl k) a st) (hm:st.length=cl.length) (hf:fK st st.length<=fa):1<=Tr hk cs cl fa:=by
 have h0:=CE st st.length;have h1:=h.ways (mo:=fa.toNat) (by omega) st.length (ze _);have cL:=h.at_ st.length (ze _);rw[hm] at h1 cL;refine Int.le_trans h1 (OG (f:=wyK cs.length fa.toNat (λk=>wvB hk cs cl k) cl.length) (JI.2 ⟨cL,?_,?_⟩) λq _=>VN ..)
 .exact CE _ _
 .show fK st cl.length<=_;rw[<-hm];omega
theorem CrO.low {n:Nat}{W:Nat->Int->Bool}{a:Int}{st:List Int}(h:CrO n W a st):∀ j,j<=st.length->(QW n W st.length j).getD (atK n a st (st.length-j)).toNat 0<=fK st st.length-fK st (st.length-j)
 |0,_=>by
  have:(QW n W st.length 0).getD (atK n a st (st.length-0)).toNat 0=0:=by show (List.replicate n (0:Int)).getD _ 0=0;rw[zd,wK];split<;>rfl
  rw[this,Nat.sub_zero];omega
 |j+1,hj=>by
  have ih:=h.low j (by omega);obtain⟨k,hk⟩:∃ k,st.length-(j+1)=k:=⟨_,rfl⟩;have bt:st.length-j=k+1:=by omega
  rw[bt] at ih;rw[hk];have cL:=h.at_ k (by omega);obtain⟨hs,hw⟩:=h.2 k (by omega);rw[Q52 cL];have hg:=Q3j (n:=n) (now:=QW n W st.length j) (a:=(atK n a st k).toNat) (w:=W (st.length-1-j) (atK n a st k)) (by rw[show st.length-1-j=k by omega];exact hw);have rW:atK n a st (k+1)=nxC n (atK n a st k) (st.getD k 0):=rfl;have jo:fK st (k+1)=fK st k+ftC (st.getD k 0):=rfl;rw[rW] at ih;rw[show (((atK n a st k).toNat:Nat):Int)=atK n a st k by omega] at hg;rcases (show st.getD k 0=0\/st.getD k 0=1\/st.getD k 0=2 by omega) with e|e|e<;>rw[e] at ih jo<;>omega
theorem Hv (n:Nat) (W:Nat->Int->Bool) (m:Nat):∀ j a,(K6 n W m j a).length=j
 |0,_=>rfl
 |j+1,a=>by rw[K6,xh,Hv n W m j]
theorem PM {n:Nat}{W:Nat->Int->Bool}{m:Nat}{a:Int}(ha:0<=a/\a<(n:Int)) (hl:(QW n W m m).getD a.toNat 0<1048576):∀ i,i<=m ->
  (K6 n W m m a).drop i=K6 n W m (m-i) (atK n a (K6 n W m m a) i)/\(0<=atK n a (K6 n W m m a) i/\atK n a (K6 n W m m a) i<n)/\fK (K6 n W m m a) i+(QW n W m (m-i)).getD (atK n a (K6 n W m m a) i).toNat 0=(QW n W m m).getD a.toNat 0
 |0,_=>⟨rfl,ha,by show 0+_=_;rw[Int.zero_add];rfl⟩
 |i+1,hi=>by
  obtain⟨h1,h2,h3⟩:=PM ha hl i (by omega);obtain⟨j,hj⟩:∃ j,m-i=j+1:=⟨m-i-1,by omega⟩;have ki:m-(i+1)=j:=by omega
  rw[hj] at h1 h3;rw[ki];have pM:=CE (K6 n W m m a) i;obtain⟨hw,hs⟩:=Cy h2 (show (QW n W m (j+1)).getD (atK n a (K6 n W m m a) i).toNat 0<1048576 by omega);have nj:=Co n (QW n W m (j+1)) (QW n W m j) (atK n a (K6 n W m m a) i);have ck:K6 n W m (j+1) (atK n a (K6 n W m m a) i)=SO n (QW n W m (j+1)) (QW n W m j) (atK n a (K6 n W m m a) i)::K6 n W m j (nxC n (atK n a (K6 n W m m a) i) (SO n (QW n W m (j+1)) (QW n W m j) (atK n a (K6 n W m m a) i))):=rfl;have hlen:=Hv n W m m a;have hg:(K6 n W m m a).getD i 0=SO n (QW n W m (j+1)) (QW n W m j) (atK n a (K6 n W m m a) i):=by
   have:((K6 n W m m a).drop i).getD 0 0=(K6 n W m m a).getD i 0:=by rw[zd,zd,zz,zK]
   rw[<-this,h1,ck];rfl
  have cL:atK n a (K6 n W m m a) (i+1)=nxC n (atK n a (K6 n W m m a) i) ((K6 n W m m a).getD i 0):=rfl;have tc:fK (K6 n W m m a) (i+1)=fK (K6 n W m m a) i+ftC ((K6 n W m m a).getD i 0):=rfl;rw[cL,tc,hg];refine⟨?_,Ot (by omega) h2.1 nj.1,by omega⟩;rw[<-List.drop_drop (i:=1),h1,ck];rfl
theorem Iq {n:Nat}{W:Nat->Int->Bool}{m:Nat}{a:Int}(ha:0<=a/\a<(n:Int)) (hl:(QW n W m m).getD a.toNat 0<1048576) {i j:Nat}(hj:m-i=j+1) :
  (K6 n W m m a).getD i 0=SO n (QW n W m (j+1)) (QW n W m j) (atK n a (K6 n W m m a) i):=by
 have h1:=(PM ha hl i (by omega)).1;rw[hj] at h1;have:((K6 n W m m a).drop i).getD 0 0=(K6 n W m m a).getD i 0:=by rw[zd,zd,zz,zK]
 rw[<-this,h1];rfl
theorem Z11 {n:Nat}{W:Nat->Int->Bool}{m:Nat}{a:Int}(ha:0<=a/\a<(n:Int)) (hl:(QW n W m m).getD a.toNat 0<1048576):CrO n W a (K6 n W m m a)/\fK (K6 n W m m a) m=(QW n W m m).getD a.toNat 0:=by
 refine⟨⟨ha,λi hi=>?_⟩,?_⟩
 .rw[Hv] at hi;obtain⟨j,hj⟩:∃ j,m-i=j+1:=⟨m-i-1,by omega⟩;obtain⟨h1,h2,h3⟩:=PM ha hl i (by omega);rw[hj] at h3;have pM:=CE (K6 n W m m a) i;have nj:=Co n (QW n W m (j+1)) (QW n W m j) (atK n a (K6 n W m m a) i);have hw:=(Cy h2 (show (QW n W m (j+1)).getD (atK n a (K6 n W m m a) i).toNat 0<1048576 by omega)).1;rw[Iq ha hl hj];exact⟨nj,by rw[show i=m-1-j by omega] at hw |-;exact hw⟩
 .have h3:=(PM ha hl m (ze _)).2.2;have:(QW n W m (m-m)).getD (atK n a (K6 n W m m a) m).toNat 0=0:=by
   rw[xQ];show (List.replicate n (0:Int)).getD _ 0=0;rw[zd,wK];split<;>rfl
  omega
theorem FK {n a:Int}{s t:List Int}:∀ k,(∀ j,j<k->s.getD j 0=t.getD j 0)->atK n a s k=atK n a t k/\fK s k=fK t k
 |0,_=>⟨rfl,rfl⟩
 |k+1,h=>by obtain⟨h1,h2⟩:=FK k λj hj=>h j (by omega);have h3:=h k (by omega);exact⟨by show Int.tmod (atK n a s k+s.getD k 0) n=Int.tmod (atK n a t k+t.getD k 0) n;rw[h1,h3],by show fK s k+ftC (s.getD k 0)=fK t k+ftC (t.getD k 0);rw[h2,h3]⟩
theorem Q6d {n:Nat}{W:Nat->Int->Bool}{a:Int}{st:List Int}(h:CrO n W a st) (hl:(QW n W st.length st.length).getD a.toNat 0<1048576) (he:fK st st.length=(QW n W st.length st.length).getD a.toNat 0) {i:Nat}(hi:i<st.length)
  (hp:∀ j,j<i->(K6 n W st.length st.length a).getD j 0=st.getD j 0):(K6 n W st.length st.length a).getD i 0<=st.getD i 0:=by
 obtain⟨j,hj⟩:∃ j,st.length-i=j+1:=⟨st.length-i-1,by omega⟩;obtain⟨e1,e2⟩:=FK (n:=n) (a:=a) i hp;obtain⟨_,h2,h3⟩:=PM h.1 hl i (by omega);rw[Iq h.1 hl hj];rw[hj] at h3;rw[e1] at h2 h3 |-;rw[e2] at h3;obtain⟨hs,hw⟩:=h.2 i hi;refine AU hs.1 ?_;have lo:=h.low j (by omega);rw[show st.length-j=i+1 by omega] at lo;have rW:atK n a st (i+1)=nxC n (atK n a st i) (st.getD i 0):=rfl;have jo:fK st (i+1)=fK st i+ftC (st.getD i 0):=rfl;rw[rW] at lo;have hg:=Q3j (n:=n) (now:=QW n W st.length j) (a:=(atK n a st i).toNat) (w:=W (st.length-1-j) (atK n a st i)) (by rw[show st.length-1-j=i by omega];exact hw);rw[<-Q52 (wv:=W) (m:=st.length) (k:=j) h2,show (((atK n a st i).toNat:Nat):Int)=atK n a st i by omega] at hg;rcases (show st.getD i 0=0\/st.getD i 0=1\/st.getD i 0=2 by omega) with e|e|e<;>rw[e] at lo jo |-<;>omega
theorem Z07 {hk:Int}{c:V8}(h:QT hk c=true) (h0:0<=hk):0<=Yh hk c/\Yh hk c<2 ^ hk.toNat:=by
 obtain⟨h1,h2⟩:=Bd h;unfold Yh;split
 .have:=RA hk.toNat c.2.1.toNat;unfold IB;rw[HB];omega
 .exact⟨h1,h2⟩
theorem Z0c {rw:List Int}(h:∀ x∈rw,0<=x/\x<=255) (fi:Int) (sp sn:List Int) (mo:Int) (i:Nat):-1<=trR rw fi sp sn mo i/\trR rw fi sp sn mo i<8:=by
 unfold trR;split
 .decide
 .have hc:QT 3 ((Q4 rw).getD (trA rw fi sp mo i).toNat YB)=true:=by
   by_cases hi:(trA rw fi sp mo i).toNat<(Q4 rw).length
   .exact RT h _ (by rw[Qh hi];exact zp hi)
   .rw[zd,zk (by omega)];decide
  have:=Z07 hc (by decide);have e:(2:Int) ^ Int.toNat 3=8:=rfl;omega
theorem C_ (rw:List Int) (fi:Int) (sp sn:List Int) (mo:Int):(ZW rw fi sp sn mo).length=trM sp:=by simp[ZW]
theorem Sq (rw:List Int) (fi:Int) (sp:List Int) (mo:Int):(K_ rw fi sp mo).length=trM sp:=by simp[K_]
theorem AO {rw:List Int}{fi:Int}{sp:List Int}{mo:Int}{i:Nat}(h:i<trM sp):(K_ rw fi sp mo).getD i 0=trS rw fi sp mo i:=by rw[Qh (by rw[Sq];exact h)];simp[K_]
theorem O_ {rw:List Int}{fi:Int}{sp sn:List Int}{mo:Int}{i:Nat}(h:i<trM sp):(ZW rw fi sp sn mo).getD i 0=trR rw fi sp sn mo i:=by rw[Qh (by rw[C_];exact h)];simp[ZW]
theorem Q97 {rw:List Int}{fi:Int}{sp:List Int}(h:∀ x∈sp,0<=x/\x<=255) {mo:Int}{i:Nat}(hi:i<sp.length):0<=trS rw fi sp mo i/\trS rw fi sp mo i<=2:=by
 have hv:=Aa h hi;unfold trS;split
 .rename_i c;simp only[z6,zm] at c;omega
 .omega
theorem Q1n (rw:List Int) (fi:Int) (sp:List Int) (mo:Int) (k:Nat):trA rw fi sp mo (k+1)=Int.tmod (trA rw fi sp mo k+trS rw fi sp mo k) (Q4 rw).length:=by unfold trS trA trF;rw[trP];split<;>rfl
theorem Q1m {rw:List Int}{fi:Int}{sp:List Int}(h:∀ x∈sp,0<=x/\x<=255) {mo:Int}{k:Nat}(hk:k<sp.length):trF rw fi sp mo (k+1)=trF rw fi sp mo k+ftC (trS rw fi sp mo k):=by
 have hv:=Aa h hk;unfold trS trF;rw[trP];split
 .rename_i c;simp only[z6,zm] at c;unfold ftC;rw[z8 (by omega)]
 .unfold ftC;rw[z7 rfl];exact(Int.add_zero _).symm
theorem Ix {rw:List Int}{fi:Int}{sp:List Int}(h:∀ x∈sp,0<=x/\x<=255) {mo:Int}:∀ k,k<=trM sp->atK (Q4 rw).length (trA rw fi sp mo 0) (K_ rw fi sp mo) k=trA rw fi sp mo k/\fK (K_ rw fi sp mo) k=trF rw fi sp mo k
 |0,_=>⟨rfl,rfl⟩
 |k+1,hk=>by obtain⟨h1,h2⟩:=Ix h k (by omega);have hg:=AO (rw:=rw) (fi:=fi) (mo:=mo) (show k<trM sp by omega);have:=SN sp;exact⟨by show Int.tmod (_+_) _=_;rw[h1,hg,Q1n],by show fK _ k+ftC _=_;rw[h2,hg,Q1m h (by omega)]⟩
theorem Z3c {rw:List Int}{fi:Int}{sp sn:List Int}(hf:0<=fi) (h:∀ x∈sp,0<=x/\x<=255) {mo:Int}(hm:0<=mo):CrO (Q4 rw).length (λk=>wvB 3 (Q4 rw) (ZW rw fi sp sn mo) k) (trA rw fi sp mo 0) (K_ rw fi sp mo):=by have hl:=Mc rw;have hN:=MB rw;have hM:=SN sp;refine⟨(AN (n:=(Q4 rw).length) (by omega) hf h hm 0 (Nat.zero_le _)).2,λi hi=>?_⟩;rw[Sq] at hi;rw[AO hi,(Ix h i (by omega)).1];refine⟨Q97 h (by omega),?_⟩;show wvB 3 (Q4 rw) (ZW rw fi sp sn mo) i (trA rw fi sp mo i)=true;unfold wvB;rw[O_ hi];unfold trR;split<;>simp
theorem Q8m {rw:List Int}{fi:Int}{sp:List Int}(hf:0<=fi) (h:∀ x∈sp,0<=x/\x<=255) {mo:Int}(hm:0<=mo):0<=trF rw fi sp mo (trM sp)/\trF rw fi sp mo (trM sp)<=mo:=by have hl:=Mc rw;have hN:=MB rw;exact(AN (n:=(Q4 rw).length) (by omega) hf h hm (trM sp) (SN sp).1).1
theorem Q6p {hk:Int}{cs:List V8}{cl:List Int}{a:Int}{st:List Int}(h:CrO cs.length (λk=>wvB hk cs cl k) a st) (hm:st.length=cl.length) (hf:fK st st.length<1048576) :
  V0 hk cs cl=0/\G0 hk cs cl=Su hk cs cl/\0<=Su hk cs cl/\Su hk cs cl<=fK st st.length/\(Ui hk cs cl).length=cl.length/\CrO cs.length (λk=>wvB hk cs cl k) (Y7 hk cs cl) (Ui hk cs cl)/\fK (Ui hk cs cl) cl.length=Su hk cs cl /\
  (Su hk cs cl=fK st st.length->Y7 hk cs cl<=a/\(Y7 hk cs cl=a->∀ i,i<st.length->(∀ j,j<i->(Ui hk cs cl).getD j 0=st.getD j 0)->(Ui hk cs cl).getD i 0<=st.getD i 0)):=by
 have lo:=h.low st.length (ze _);rw[xQ] at lo;have lo:(QW cs.length (λk=>wvB hk cs cl k) cl.length cl.length).getD a.toNat 0<=fK st st.length:=by rw[hm] at lo |-;have:fK st 0=0:=rfl;have e:atK cs.length a st 0=a:=rfl;rw[e] at lo;omega
 have hlen:=Vm cs.length (λk=>wvB hk cs cl k) cl.length cl.length;have az:QW cs.length (λk=>wvB hk cs cl k) cl.length cl.length≠[]:=λe=>by rw[e] at hlen;simp at hlen;have:=h.1;omega
 obtain⟨m1,m2⟩:=TM az;have cL:a.toNat<(QW cs.length (λk=>wvB hk cs cl k) cl.length cl.length).length:=by have:=h.1;omega
 have hle:=m2 _ (by rw[Qh cL];exact zp cL:(QW cs.length (λk=>wvB hk cs cl k) cl.length cl.length).getD a.toNat 0∈QW cs.length (λk=>wvB hk cs cl k) cl.length cl.length);obtain⟨i0,lO,hI,hg,jY⟩:=A8 m1;have hE:Su hk cs cl=Zl (QW cs.length (λk=>wvB hk cs cl k) cl.length cl.length):=rfl;have hI:C4 hk cs cl=i0:=hI;rw[<-hE] at hle hg jY;have hb:=S4 cs.length (λk=>wvB hk cs cl k) cl.length cl.length i0;obtain⟨eA,eF,eR,eW⟩:=CR (hk:=hk) (cs:=cs) (cl:=cl) (by omega);have jD:0<=C4 hk cs cl/\C4 hk cs cl<cs.length:=by omega
 have cR:(QW cs.length (λk=>wvB hk cs cl k) cl.length cl.length).getD (C4 hk cs cl).toNat 0=Su hk cs cl:=by rw[hI,zq];exact hg
 obtain⟨o1,o2⟩:=Z11 jD (show (QW cs.length (λk=>wvB hk cs cl k) cl.length cl.length).getD (C4 hk cs cl).toNat 0<1048576 by omega);rw[eA,eF,eR,eW];refine⟨rfl,rfl,by omega,by omega,Hv ..,o1,by rw[o2,cR],λhe=>⟨?_,λjW i hi hp=>?_⟩⟩
 .have:¬ a.toNat<i0:=λc=>jY _ c (by omega);have:=h.1;omega
 .rw[jW] at hp cR |-;rw[<-hm] at hp cR |-;exact Q6d h (by omega) (by omega) hi hp
theorem Q06 {hk a:Int}{cs:List V8}{st:List Int}{W:Nat->Int->Bool}(hb:QF hk cs=0) (h:CrO cs.length W a st) (hl:st.length<=60):J4 hk cs a st=0/\GY hk cs a st=Hd hk cs a st st.length/\Vz hk cs a st=atK cs.length a st st.length:=by
 have e:J4 hk cs a st=0:=by unfold J4;have:=h.1;rw[z8 (by simpa using hb),z8 (by simp[inI];omega),z8 (by omega),z8];intro c;obtain⟨s,hs,h2⟩:=xu.1 c;obtain⟨i,hi,rfl⟩:=List.getElem_of_mem hs;have:=(h.2 i hi).1;rw[Qh hi] at this;simp[inI] at h2;omega
 exact⟨e,by unfold GY;rw[z7 e],by unfold Vz;rw[z7 e]⟩
theorem Ou {hk:Int}{cs:List V8}{a:Int}{st:List Int}{k i:Nat}(h:i<k):(Hd hk cs a st k).getD i 0=Yh hk (cs.getD (atK cs.length a st i).toNat YB):=by rw[Qh (by rw[Pp];exact h)];simp[Hd]
theorem Il {hk:Int}{cs:List V8}{cl:List Int}{fa a:Int}(h:a∈ZU hk cs cl fa):0<=a/\a<cs.length:=by unfold ZU at h;obtain⟨x,hx,rfl⟩:=zE.1 (zX.1 h).1;have:=zD.1 hx;omega
theorem G5:TJ:=TA λhk cs cl fa h=>by
 obtain⟨h1,h2,h3,h4,h5⟩:=h;obtain⟨hf,b9,az,ai⟩:=Ua h1;have bq:=xx.2 az;unfold Ya;(try delta L6 Pj T7 YS Sg Sc Hz G_ RY);(try delta lI gD sT I64 ND pj8 pj4);refine⟨⟨h1,h2,h3,h4,h5⟩,λm hm=>⟨m,([],[]),(by and_intros<;>first|rfl|trivial),?_⟩⟩;refine LoopP.rng m.length (λx dn=>KeyW cs.length m x dn) ⟨List.nodup_nil,λa=>⟨(λh=>by cases h),(λ⟨r,hr,_⟩=>by cases hr)⟩⟩ ?_;intro x dn hn ah hx q hq;dsimp only;refine⟨λae=>⟨(λc=>by cases c),λ_=>?_⟩,λr hr gm=>⟨λ_=>?_,(λc=>by cases c)⟩⟩
 .intro w7;refine⟨rfl,λw8 w9 pg ph=>⟨(x,0,m,dn,false,w8,w9,pg,ph),([],[]),(by and_intros<;>first|rfl|trivial),?_⟩⟩;dsimp only;have fy:=KeyW.len hm ah hx;refine LoopP.rng2 x.length (λys d2=>ys=d2.map λr=>(x.getD r (0,false)).1) rfl ?_;intro ys d2 pZ lG pa q2 nb;dsimp only;have hlen:ys.length=d2.length:=by rw[pa];simp
  have pj:=MS pZ (m:=List.range x.length) λy hy=>zD.2 (lG y hy);rw[wP] at pj;refine⟨λrR=>⟨(λc=>by cases c),λ_=>?_⟩,λr hr gm=>⟨λ_=>?_,(λc=>by cases c)⟩⟩
  .have hs:=KeyW.sorted bq hm ah hx ae pZ lG rR;rw[<-pa] at hs;have hl:=(List.mergeSort_perm ys λx y:Int=>decide (x<=y)).length_eq;rw[hs] at hl;refine⟨rfl,rfl,rfl,⟨λe=>by cases ys with|nil=>cases e|cons _ _=>exact Nat.succ_pos _,by omega⟩,rfl,⟨by and_intros<;>first|rfl|trivial,⟨hs,?_⟩,trivial⟩⟩;rw[Bool.eq_iff_iff,List.isEmpty_iff,List.isEmpty_iff,<-x4,<-x4,hl]
  .have er:List.getLastD (d2++[r]) 0=r:=by simp
   rw[er];refine⟨by simp,rfl,λw=>⟨by simp only[xr];omega,rfl,rfl,(λc=>by cases c),λ_=>?_⟩⟩;refine⟨(d2++[r],ys++[(x.getD r (0,false)).1]),⟨⟨trivial,trivial,trivial⟩,?_⟩,nb r _ hr gm (by rw[pa];simp)⟩;and_intros<;>first|rfl|trivial|simp
 .have er:List.getLastD (dn++[r]) 0=r:=by simp
  rw[er];refine⟨by simp,(TB (.i .i64) x (m.getD r ((0,0),0)).1.1 true,dn++[r]),(by and_intros<;>first|rfl|trivial),hq r _ hr gm (hx.snoc r)⟩
end Go.Proofs.Tryz