/- A framework for walks, contracts of functions, and their proofs: part 11. -/
import Derived.Shelf.SlGeneric
import Derived.Shelf.Sort.Plain
import Derived.Ground.NamesProg
import Derived.Test.YtfblnfcecfjbpaaGreatProg
import Derived.Below
import Derived.Shelf.Spec.SlicesGrow
import Derived.Shelf.Slices.In.SortNone
import Derived.Test.YtfblnfcecfjbpaaGreatQ10
set_option linter.unusedVariables false
set_option maxRecDepth 100000
namespace Go.Proofs.Tryz
open Go Go.V Go.Proofs
def JN:AL (List Int×((Int->Prop)×(Int->Bool))):=(.cons (.k (.list (.i .i64))) (.one (.fn [(.i .i64)] .bo)))
def YT (d:List Int×((Int->Prop)×(Int->Bool))):Prop:=d.1.length<=1000000/\∀ x∈d.1,d.2.1 x
def JD (d:List Int×((Int->Prop)×(Int->Bool))):SV:=.val (.i .i64) (IX d.1 d.2.2)
def JG (d:List Int×((Int->Prop)×(Int->Bool))):List OB:=[]
def ZF:CSp:=V7 JN YT JD JG
def QQ (l:List Int) (p:(Int->Prop)×(Int->Bool)):Prop :=
 ∃ (e2:Unit) (d20:Int),((l=l/\(SV.pf [(.i .i64)] .bo p.1 p.2=SV.pf [(.i .i64)] .bo p.1 p.2)/\(lI l)=(lI l)/\(0:Int)=d20/\True)/\(True)) /\
 LoopP (λ(d2:Int) (q2:(Int)->Prop) =>
  ((decide (d2<(lI l)))=true ->
   (0<=d2)/\(d2<(List.length l))/\(p.1 (gD l d2 0))/\((p.2 (gD l d2 0))=true ->
    (d2=(IX l p.2)/\(True))) /\
   ((p.2 (gD l d2 0))=false ->
    (I64 (d2+(1:Int)))/\(∃ d3:Int,((l=l/\(SV.pf [(.i .i64)] .bo p.1 p.2=SV.pf [(.i .i64)] .bo p.1 p.2)/\(lI l)=(lI l)/\(d2+(1:Int))=d3/\True)/\(True))/\q2 d3))) /\
  ((decide (d2<(lI l)))=false ->
   ((-1:Int)=(IX l p.2)/\(True)))) d20
def J_:Cx:=⟨[],[],19,[],0,[],[],[],[],false,[],[],[],[]⟩
def Kh (l:List Int) (p:(Int->Prop)×(Int->Bool)):List (Nat×LoopAnn):=[(0,⟨Unit,Int,[0,1,7,8],λe x=>[.val (.list (.i .i64)) l,.pf [(.i .i64)] .bo p.1 p.2,.val (.i .i64) (((List.length l):Nat):Int),.val (.i .i64) x],λe x=>[]⟩)]
theorem Ks (d:List Int×((Int->Prop)×(Int->Bool))):gwp (J_) (Kh d.1 d.2) Z0a 0 (Vv [.tmp 4] (JD d) (JG d)) (Qw 19 (AL.can JN d))=QQ d.1 d.2:=by kernel_rfl
abbrev KD:Prop:=OkC Tryz.prog 142 ZF
theorem KB (h:∀ (l:List Int) (p:(Int->Prop)×(Int->Bool)),(l.length<=1000000/\∀ x∈l,p.1 x)->QQ l p):OkC Tryz.prog 142 ZF :=
 Z4 EP mixed (C:=J_) (V:=λ(d:List Int×((Int->Prop)×(Int->Bool)))=>QQ d.1 d.2) ⟨.nil,XsOk.nil,ItsOk.nil,YlOk.nil,IysOk.nil,XfOk.nil⟩ (Ks) λd hp=>h d.1 d.2 hp
theorem Io {l:List Int}{p:Int->Bool}{k:Nat}(hk:k<l.length) (h:p l[k]=true) (hJ:(l.take k).any p=false):IX l p=k:=by
 have:l.findIdx? p=some k:=by rw[List.findIdx?_eq_some_iff_getElem];refine⟨hk,h,λj hj=>?_⟩;have hn:=xN.1 hJ l[j] (List.mem_take_iff_getElem.2 ⟨j,by omega,rfl⟩);simpa using hn
 simp[IX,this]
theorem F8 {l:List Int}{p:Int->Bool}(hJ:l.any p=false):IX l p=-1:=by
 have:l.findIdx? p=none:=by rw[List.findIdx?_eq_none_iff];intro x hx;have:=xN.1 hJ x hx;simpa using this
 simp[IX,this]
theorem C3 (l:List Int) (p:Int->Bool):decide (IX l p>=0)=l.any p:=by
 unfold IX;cases h:l.findIdx? p with
 |none =>
  have:=List.findIdx?_eq_none_iff.1 h;have:l.any p=false:=by rw[xN];intro x hx;simp[this x hx]
  rw[this];rfl
 |some i =>obtain⟨h1,h2,_⟩:=List.findIdx?_eq_some_iff_getElem.1 h;rw[xF.2 ⟨l[i],zr h1,h2⟩];simp
theorem K6:KD:=KB λl p hp=>by
 unfold QQ;(try delta lI gD sT I64 NF pj8 pj4);simp only[true_and,and_true,exists_eq_left',exists_const,zk,xy];refine LoopP.count l.length (λk=>(l.take k).any p.2=false) (by simp) λk bw hJ q hq=>?_;simp only[zw,Int.ofNat_lt,Qm];refine⟨λah=>?_,λbn=>?_⟩
 .rw[Qh ah];refine⟨by omega,ah,hp.2 _ (zr ah),λhx=>?_,λhx=>⟨by omega,hq ah ?_⟩⟩
  .rw[Io ah hx hJ]
  .rw[KX ah,List.any_append,hJ];simp[hx]
 .rw[zy (by omega)] at hJ;rw[F8 hJ]
def Jh:AL (List Int×((Int->Prop)×(Int->Bool))):=(.cons (.k (.list (.i .i64))) (.one (.fn [(.i .i64)] .bo)))
def WX (d:List Int×((Int->Prop)×(Int->Bool))):Prop:=d.1.length<=1000000/\∀ x∈d.1,d.2.1 x
def Je (d:List Int×((Int->Prop)×(Int->Bool))):SV:=.val .bo (d.1.any d.2.2)
def J9 (d:List Int×((Int->Prop)×(Int->Bool))):List OB:=[]
def Qr:CSp:=V7 Jh WX Je J9
def Q_ (l:List Int) (p:(Int->Prop)×(Int->Bool)):Prop :=
 (l.length<=1000000/\∀ x∈l,(λ(x1:Int)=>p.1 x1) x)/\((decide ((IX l (λ(x1:Int)=>(p.2 x1)))>=(0:Int)))=(l.any p.2)/\(True))
def Jj:Cx:=⟨[],[(142,ZF)],9,[],0,[],[],[],[],false,[],[],[],[]⟩
def Yc (l:List Int) (p:(Int->Prop)×(Int->Bool)):List (Nat×LoopAnn):=[]
theorem Yf (d:List Int×((Int->Prop)×(Int->Bool))):gwp (Jj) (Yc d.1 d.2) Z0c 0 (Vv [.tmp 4] (Je d) (J9 d)) (Qw 9 (AL.can Jh d))=Q_ d.1 d.2:=by kernel_rfl
abbrev Ym:Prop:=OkC Tryz.prog 113 Qr
theorem Yn (h:∀ (l:List Int) (p:(Int->Prop)×(Int->Bool)),(l.length<=1000000/\∀ x∈l,p.1 x)->Q_ l p):OkC Tryz.prog 113 Qr :=
 Z4 ID mixed (C:=Jj) (V:=λ(d:List Int×((Int->Prop)×(Int->Bool)))=>Q_ d.1 d.2) ⟨(.cons K6 .nil),XsOk.nil,ItsOk.nil,YlOk.nil,IysOk.nil,XfOk.nil⟩ (Yf) λd hp=>h d.1 d.2 hp
theorem Z0:Ym:=Yn λl p hp=>by exact⟨hp,C3 l p.2,trivial⟩
def VE:AL (Int×Int×Int):=(.cons (.k (.i .i64)) (.cons (.ptr (.one (.k (.i .i64)))) (.one (.ptr (.one (.k (.i .i64)))))))
def Gz (d:Int×Int×Int):Prop:=True
def KR (d:Int×Int×Int):SV:=.val .bo (decide (d.1<d.2.1)||decide (d.2.2<d.1))
def KT (d:Int×Int×Int):List OB:=[]
def Yr:CSp:=V7 VE Gz KR KT
def X4 (n:Int) (a:Int) (b:Int):Prop :=
 (((decide (n<a))||(decide (n > b)))=(decide (n<a)||decide (b<n))/\(True))
def VD:Cx:=⟨[],[],13,[],0,[],[],[],[],false,[],[],[],[]⟩
def Bd (n:Int) (a:Int) (b:Int):List (Nat×LoopAnn):=[]
theorem B5 (d:Int×Int×Int):gwp (VD) (Bd d.1 d.2.1 d.2.2) Q9w 0 (Vv [.tmp 4] (KR d) (KT d)) (Qw 13 (AL.can VE d))=X4 d.1 d.2.1 d.2.2:=by kernel_rfl
abbrev B4:Prop:=OkC Tryz.prog 125 Yr
theorem B6 (h:∀ (n:Int) (a:Int) (b:Int),(True)->X4 n a b):OkC Tryz.prog 125 Yr :=
 Z4 IH mixed (C:=VD) (V:=λ(d:Int×Int×Int)=>X4 d.1 d.2.1 d.2.2) ⟨.nil,XsOk.nil,ItsOk.nil,YlOk.nil,IysOk.nil,XfOk.nil⟩ (B5) λd hp=>h d.1 d.2.1 d.2.2 hp
theorem DC:B4:=B6 λn a b _=>by unfold X4;(try delta lI gD sT I64 NF pj8 pj4);exact(by and_intros<;>first|rfl|trivial|simp)
def NY:AL (Int×Int×List Int):=(.cons (.k (.i .i64)) (.cons (.k (.i .i64)) (.one (.k (.list (.i .i64))))))
def BQ (d:Int×Int×List Int):Prop:=d.2.2.length<=1000000
def UE (d:Int×Int×List Int):SV:=.val .bo (!(d.2.2.any λn=>decide (n<d.1)||decide (d.2.1<n)))
def UF (d:Int×Int×List Int):List OB:=[]
def Jv:CSp:=V7 NY BQ UE UF
def Wo (a:Int) (b:Int) (l:List Int):Prop :=
 (l.length<=1000000/\∀ x∈l,(λ(x1:Int)=>True) x)/\((!(l.any (λ(x1:Int)=>(decide (x1<a)||decide (b<x1)))))=(!(l.any λn=>decide (n<a)||decide (b<n)))/\(True))
def M8:Cx:=⟨[],[(113,Qr),(125,Yr)],11,[],0,[],[],[],[],false,[],[],[],[]⟩
def P9 (a:Int) (b:Int) (l:List Int):List (Nat×LoopAnn):=[]
theorem HM (d:Int×Int×List Int):gwp (M8) (P9 d.1 d.2.1 d.2.2) c88 0 (Vv [.tmp 6] (UE d) (UF d)) (Qw 11 (AL.can NY d))=Wo d.1 d.2.1 d.2.2:=by kernel_rfl
abbrev Hz:Prop:=OkC Tryz.prog 88 Jv
theorem Pk (h:∀ (a:Int) (b:Int) (l:List Int),(l.length<=1000000)->Wo a b l):OkC Tryz.prog 88 Jv :=
 Z4 Q4q mixed (C:=M8) (V:=λ(d:Int×Int×List Int)=>Wo d.1 d.2.1 d.2.2) ⟨(.cons Z0 (.cons DC .nil)),XsOk.nil,ItsOk.nil,YlOk.nil,IysOk.nil,XfOk.nil⟩ (HM) λd hp=>h d.1 d.2.1 d.2.2 hp
theorem Wp:Hz:=Pk λa b l h=>by unfold Wo;(try delta lI gD sT I64 NF pj8 pj4);exact⟨⟨h,λ_ _=>trivial⟩,rfl,trivial⟩
def WK:AL (Int):=(.one (.k (.i .i64)))
def U7 (d:Int):Prop:=True
def Wa (d:Int):SV:=.val .bo (inI d 1 24)
def W7 (d:Int):List OB:=[]
def Z2:CSp:=V7 WK U7 Wa W7
def Zz (f:Int):Prop :=
 ([f].length<=1000000)/\((!([f].any λn=>decide (n<(1:Int))||decide ((24:Int)<n)))=(inI f 1 24)/\(True))
def WI:Cx:=⟨[(3,(.i .i64))],[(88,Jv)],6,[],0,[],[],[],[],false,[],[],[],[]⟩
def N0 (f:Int):List (Nat×LoopAnn):=[]
theorem Ng (d:Int):gwp (WI) (N0 d) c87 0 (Vv [.tmp 2] (Wa d) (W7 d)) (Qw 6 (AL.can WK d))=Zz d:=by kernel_rfl
abbrev UU:Prop:=OkC Tryz.prog 87 Z2
theorem U_ (h:∀ (f:Int),(True)->Zz f):OkC Tryz.prog 87 Z2 :=
 Z4 Q4y mixed (C:=WI) (V:=λ(d:Int)=>Zz d) ⟨(.cons Wp .nil),XsOk.nil,ItsOk.nil,YlOk.nil,IysOk.nil,XfOk.nil⟩ (Ng) λd hp=>h d hp
theorem JA:UU:=U_ λf _=>by unfold Zz;(try delta lI gD sT I64 NF pj8 pj4);have e:∀ n a b:Int,(decide (n<a)||decide (b<n))=!inI n a b:=λn a b=>(nI n a b).symm;simp only[List.any_cons,List.any_nil,wC,e,Bool.not_not,xi,List.length_nil];exact⟨by omega,(by and_intros<;>first|rfl|trivial|simp)⟩
def WC:AL (Int×List Int):=(.cons (.k (.i .i64)) (.one (.k (.list (.i .i64)))))
def Ue (d:Int×List Int):Prop:=1<=d.1/\d.1<=24/\d.2.length<=1000000
def X_ (d:Int×List Int):SV:=.val .bo (!(d.2.any λn=>!inI n 0 (2 ^ d.1.toNat-1)))
def W3 (d:Int×List Int):List OB:=[]
def ZI:CSp:=V7 WC Ue X_ W3
def Zy (f:Int) (l:List Int):Prop :=
 (0<=f)/\(I64 (Xr .i64 (1:Int) f))/\(I64 ((Xr .i64 (1:Int) f)-(1:Int)))/\(l.length<=1000000)/\((!(l.any λn=>decide (n<(0:Int))||decide (((Xr .i64 (1:Int) f)-(1:Int))<n)))=(!(l.any λn=>!inI n 0 (2 ^ f.toNat-1)))/\(True))
def Wu:Cx:=⟨[],[(88,Jv)],10,[],0,[],[],[],[],false,[],[],[],[]⟩
def N3 (f:Int) (l:List Int):List (Nat×LoopAnn):=[]
theorem US (d:Int×List Int):gwp (Wu) (N3 d.1 d.2) Z04 0 (Vv [.tmp 4] (X_ d) (W3 d)) (Qw 10 (AL.can WC d))=Zy d.1 d.2:=by kernel_rfl
abbrev Na:Prop:=OkC Tryz.prog 102 ZI
theorem UY (h:∀ (f:Int) (l:List Int),(1<=f/\f<=24/\l.length<=1000000)->Zy f l):OkC Tryz.prog 102 ZI :=
 Z4 FT mixed (C:=Wu) (V:=λ(d:Int×List Int)=>Zy d.1 d.2) ⟨(.cons Wp .nil),XsOk.nil,ItsOk.nil,YlOk.nil,IysOk.nil,XfOk.nil⟩ (US) λd hp=>h d.1 d.2 hp
theorem WG:Na:=UY λf l h=>by obtain⟨h1,h2,h3⟩:=h;unfold Zy;(try delta lI gD sT I64 NF pj8 pj4);have e:∀ n a b:Int,(decide (n<a)||decide (b<n))=!inI n a b:=λn a b=>(nI n a b).symm;obtain⟨k,rfl⟩:=xm (show 0<=f by omega);have hs:=Z4n (k:=k) (by omega);have hp:=OL (k:=k) (by omega);simp only[hs,e,zw,Ha];exact⟨by omega,by simp only[Qm];omega,by simp only[Qm];omega,h3,(by and_intros<;>first|rfl|trivial|simp)⟩
def JL:AL (Int):=(.one (.k (.i .u64)))
def YL (d:Int):Prop:=0<=d/\d<=18446744073709551615
def JC (d:Int):SV:=.val (.i .u64) ((OF d.toNat:Nat):Int)
def JE (d:Int):List OB:=[]
def ZG:CSp:=V7 JL YL JC JE
def QR (x:Int):Prop :=
 (0<=(8:Int))/\(0<=(8:Int))/\(InK .u64 (Xr .u64 (Q7 .and .u64 x (71777214294589695:Int)) (8:Int)))/\(0<=(16:Int))/\(0<=(16:Int))/\(InK .u64 (Xr .u64 (Q7 .and .u64 (Q7 .or .u64 (Q7 .and .u64 (X7 .u64 x (8:Int)) (71777214294589695:Int)) (Xr .u64 (Q7 .and .u64 x (71777214294589695:Int)) (8:Int))) (281470681808895:Int)) (16:Int)))/\(0<=(32:Int))/\(0<=(32:Int))/\((Q7 .or .u64 (X7 .u64 (Q7 .or .u64 (Q7 .and .u64 (X7 .u64 (Q7 .or .u64 (Q7 .and .u64 (X7 .u64 x (8:Int)) (71777214294589695:Int)) (Xr .u64 (Q7 .and .u64 x (71777214294589695:Int)) (8:Int))) (16:Int)) (281470681808895:Int)) (Xr .u64 (Q7 .and .u64 (Q7 .or .u64 (Q7 .and .u64 (X7 .u64 x (8:Int)) (71777214294589695:Int)) (Xr .u64 (Q7 .and .u64 x (71777214294589695:Int)) (8:Int))) (281470681808895:Int)) (16:Int))) (32:Int)) (IntKind.wrap .u64 (Xr .u64 (Q7 .or .u64 (Q7 .and .u64 (X7 .u64 (Q7 .or .u64 (Q7 .and .u64 (X7 .u64 x (8:Int)) (71777214294589695:Int)) (Xr .u64 (Q7 .and .u64 x (71777214294589695:Int)) (8:Int))) (16:Int)) (281470681808895:Int)) (Xr .u64 (Q7 .and .u64 (Q7 .or .u64 (Q7 .and .u64 (X7 .u64 x (8:Int)) (71777214294589695:Int)) (Xr .u64 (Q7 .and .u64 x (71777214294589695:Int)) (8:Int))) (281470681808895:Int)) (16:Int))) (32:Int))))=((OF x.toNat:Nat):Int)/\(True))
def JX:Cx:=⟨[],[],22,[20],0,[],[],[],[],false,[],[],[],[]⟩
def Kk (x:Int):List (Nat×LoopAnn):=[]
theorem Ky (d:Int):gwp (JX) (Kk d) Z0l 0 (Vv [.tmp 2] (JC d) (JE d)) (Qw 22 (AL.can JL d))=QR d:=by kernel_rfl
abbrev KF:Prop:=OkC Tryz.prog 184 ZG
theorem Kp (h:∀ (x:Int),(0<=x/\x<=18446744073709551615)->QR x):OkC Tryz.prog 184 ZG :=
 Z4 Fu mixed (C:=JX) (V:=λ(d:Int)=>QR d) ⟨.nil,XsOk.nil,ItsOk.nil,YlOk.nil,IysOk.nil,XfOk.nil⟩ (Ky) λd hp=>h d hp
theorem Kw:KF:=Kp λx h=>by
 obtain⟨h1,h2⟩:=h;unfold QR;(try delta lI gD sT I64 NF pj8 pj4);obtain⟨n,rfl⟩:=xm h1;have hn:n<2 ^ 64:=by omega
 obtain⟨a1,a2,a3⟩:=sw8 hn;obtain⟨b1,b2,b3⟩:=Z4p a3;have c1:=Z4t b3;simp only[a1,b1,c1,zw];refine⟨by omega,by omega,a2,by omega,by omega,b2,by omega,by omega,?_⟩;exact(by and_intros<;>first|rfl|trivial|simp)
def WB:AL (Int):=(.one (.k (.i .u64)))
def U1 (d:Int):Prop:=0<=d/\d<=18446744073709551615
def We (d:Int):SV:=.val (.i .u64) ((Bc 64 d.toNat:Nat):Int)
def W9 (d:Int):List OB:=[]
def JQ:CSp:=V7 WB U1 We W9
def Zt (x:Int):Prop :=
 (0<=(1:Int))/\(0<=(1:Int))/\(InK .u64 (Xr .u64 (Q7 .and .u64 x (6148914691236517205:Int)) (1:Int)))/\(0<=(2:Int))/\(0<=(2:Int))/\(InK .u64 (Xr .u64 (Q7 .and .u64 (Q7 .or .u64 (Q7 .and .u64 (X7 .u64 x (1:Int)) (6148914691236517205:Int)) (Xr .u64 (Q7 .and .u64 x (6148914691236517205:Int)) (1:Int))) (3689348814741910323:Int)) (2:Int)))/\(0<=(4:Int))/\(0<=(4:Int))/\(InK .u64 (Xr .u64 (Q7 .and .u64 (Q7 .or .u64 (Q7 .and .u64 (X7 .u64 (Q7 .or .u64 (Q7 .and .u64 (X7 .u64 x (1:Int)) (6148914691236517205:Int)) (Xr .u64 (Q7 .and .u64 x (6148914691236517205:Int)) (1:Int))) (2:Int)) (3689348814741910323:Int)) (Xr .u64 (Q7 .and .u64 (Q7 .or .u64 (Q7 .and .u64 (X7 .u64 x (1:Int)) (6148914691236517205:Int)) (Xr .u64 (Q7 .and .u64 x (6148914691236517205:Int)) (1:Int))) (3689348814741910323:Int)) (2:Int))) (1085102592571150095:Int)) (4:Int)))/\(0<=(Q7 .or .u64 (Q7 .and .u64 (X7 .u64 (Q7 .or .u64 (Q7 .and .u64 (X7 .u64 (Q7 .or .u64 (Q7 .and .u64 (X7 .u64 x (1:Int)) (6148914691236517205:Int)) (Xr .u64 (Q7 .and .u64 x (6148914691236517205:Int)) (1:Int))) (2:Int)) (3689348814741910323:Int)) (Xr .u64 (Q7 .and .u64 (Q7 .or .u64 (Q7 .and .u64 (X7 .u64 x (1:Int)) (6148914691236517205:Int)) (Xr .u64 (Q7 .and .u64 x (6148914691236517205:Int)) (1:Int))) (3689348814741910323:Int)) (2:Int))) (4:Int)) (1085102592571150095:Int)) (Xr .u64 (Q7 .and .u64 (Q7 .or .u64 (Q7 .and .u64 (X7 .u64 (Q7 .or .u64 (Q7 .and .u64 (X7 .u64 x (1:Int)) (6148914691236517205:Int)) (Xr .u64 (Q7 .and .u64 x (6148914691236517205:Int)) (1:Int))) (2:Int)) (3689348814741910323:Int)) (Xr .u64 (Q7 .and .u64 (Q7 .or .u64 (Q7 .and .u64 (X7 .u64 x (1:Int)) (6148914691236517205:Int)) (Xr .u64 (Q7 .and .u64 x (6148914691236517205:Int)) (1:Int))) (3689348814741910323:Int)) (2:Int))) (1085102592571150095:Int)) (4:Int)))/\(Q7 .or .u64 (Q7 .and .u64 (X7 .u64 (Q7 .or .u64 (Q7 .and .u64 (X7 .u64 (Q7 .or .u64 (Q7 .and .u64 (X7 .u64 x (1:Int)) (6148914691236517205:Int)) (Xr .u64 (Q7 .and .u64 x (6148914691236517205:Int)) (1:Int))) (2:Int)) (3689348814741910323:Int)) (Xr .u64 (Q7 .and .u64 (Q7 .or .u64 (Q7 .and .u64 (X7 .u64 x (1:Int)) (6148914691236517205:Int)) (Xr .u64 (Q7 .and .u64 x (6148914691236517205:Int)) (1:Int))) (3689348814741910323:Int)) (2:Int))) (4:Int)) (1085102592571150095:Int)) (Xr .u64 (Q7 .and .u64 (Q7 .or .u64 (Q7 .and .u64 (X7 .u64 (Q7 .or .u64 (Q7 .and .u64 (X7 .u64 x (1:Int)) (6148914691236517205:Int)) (Xr .u64 (Q7 .and .u64 x (6148914691236517205:Int)) (1:Int))) (2:Int)) (3689348814741910323:Int)) (Xr .u64 (Q7 .and .u64 (Q7 .or .u64 (Q7 .and .u64 (X7 .u64 x (1:Int)) (6148914691236517205:Int)) (Xr .u64 (Q7 .and .u64 x (6148914691236517205:Int)) (1:Int))) (3689348814741910323:Int)) (2:Int))) (1085102592571150095:Int)) (4:Int)))<=18446744073709551615)/\(((OF (Q7 .or .u64 (Q7 .and .u64 (X7 .u64 (Q7 .or .u64 (Q7 .and .u64 (X7 .u64 (Q7 .or .u64 (Q7 .and .u64 (X7 .u64 x (1:Int)) (6148914691236517205:Int)) (Xr .u64 (Q7 .and .u64 x (6148914691236517205:Int)) (1:Int))) (2:Int)) (3689348814741910323:Int)) (Xr .u64 (Q7 .and .u64 (Q7 .or .u64 (Q7 .and .u64 (X7 .u64 x (1:Int)) (6148914691236517205:Int)) (Xr .u64 (Q7 .and .u64 x (6148914691236517205:Int)) (1:Int))) (3689348814741910323:Int)) (2:Int))) (4:Int)) (1085102592571150095:Int)) (Xr .u64 (Q7 .and .u64 (Q7 .or .u64 (Q7 .and .u64 (X7 .u64 (Q7 .or .u64 (Q7 .and .u64 (X7 .u64 x (1:Int)) (6148914691236517205:Int)) (Xr .u64 (Q7 .and .u64 x (6148914691236517205:Int)) (1:Int))) (2:Int)) (3689348814741910323:Int)) (Xr .u64 (Q7 .and .u64 (Q7 .or .u64 (Q7 .and .u64 (X7 .u64 x (1:Int)) (6148914691236517205:Int)) (Xr .u64 (Q7 .and .u64 x (6148914691236517205:Int)) (1:Int))) (3689348814741910323:Int)) (2:Int))) (1085102592571150095:Int)) (4:Int))).toNat:Nat):Int)=((Bc 64 x.toNat:Nat):Int)/\(True))
def WE:Cx:=⟨[],[(184,ZG)],26,[],0,[],[],[],[],false,[],[],[],[]⟩
def Nd (x:Int):List (Nat×LoopAnn):=[]
theorem UT (d:Int):gwp (WE) (Nd d) Z09 0 (Vv [.tmp 2] (We d) (W9 d)) (Qw 26 (AL.can WB d))=Zt d:=by kernel_rfl
abbrev Nb:Prop:=OkC Tryz.prog 153 JQ
theorem UO (h:∀ (x:Int),(0<=x/\x<=18446744073709551615)->Zt x):OkC Tryz.prog 153 JQ :=
 Z4 I1 mixed (C:=WE) (V:=λ(d:Int)=>Zt d) ⟨(.cons Kw .nil),XsOk.nil,ItsOk.nil,YlOk.nil,IysOk.nil,XfOk.nil⟩ (UT) λd hp=>h d hp
theorem Nc:Nb:=UO λx h=>by
 obtain⟨h1,h2⟩:=h;unfold Zt;(try delta lI gD sT I64 NF pj8 pj4);obtain⟨n,rfl⟩:=xm h1;have hn:n<2 ^ 64:=by omega
 obtain⟨a1,a2,a3⟩:=sw1 hn;obtain⟨b1,b2,b3⟩:=sw2 a3;obtain⟨c1,c2,c3⟩:=sw4 b3;have hr:=Z16 hn;have he:VY 4 1085102592571150095 (VY 2 3689348814741910323 (VY 1 6148914691236517205 n))=rev8 n:=rfl;simp only[a1,b1,c1,zw];rw[he,hr];rw[he] at c3;refine⟨by omega,by omega,a2,by omega,by omega,b2,by omega,by omega,c2,⟨by omega,by omega⟩,?_⟩;exact(by and_intros<;>first|rfl|trivial|simp)
def Y8:AL (Int×Int):=(.cons (.k (.i .i64)) (.one (.k (.i .i64))))
def UR (d:Int×Int):Prop:=1<=d.1/\d.1<=24/\0<=d.2/\d.2<2 ^ d.1.toNat
def WJ (d:Int×Int):SV:=.val (.i .i64) (EM d.1 d.2)
def WO (d:Int×Int):List OB:=[]
def Xc:CSp:=V7 Y8 UR WJ WO
def ZQ (f:Int) (r:Int):Prop :=
 (InK .u64 r)/\(0<=r/\r<=18446744073709551615)/\(InK .u64 f)/\(InK .u64 ((64:Int)-f))/\(0<=((64:Int)-f))/\(I64 (X7 .u64 ((Bc 64 r.toNat:Nat):Int) ((64:Int)-f)))/\((X7 .u64 ((Bc 64 r.toNat:Nat):Int) ((64:Int)-f))=(EM f r)/\(True))
def Yb:Cx:=⟨[],[(153,JQ)],13,[],0,[],[],[],[],false,[],[],[],[]⟩
def Mb (f:Int) (r:Int):List (Nat×LoopAnn):=[]
theorem Nt (d:Int×Int):gwp (Yb) (Mb d.1 d.2) Z0m 0 (Vv [.tmp 4] (WJ d) (WO d)) (Qw 13 (AL.can Y8 d))=ZQ d.1 d.2:=by kernel_rfl
abbrev NL:Prop:=OkC Tryz.prog 137 Xc
theorem NJ (h:∀ (f:Int) (r:Int),(1<=f/\f<=24/\0<=r/\r<2 ^ f.toNat)->ZQ f r):OkC Tryz.prog 137 Xc :=
 Z4 EG mixed (C:=Yb) (V:=λ(d:Int×Int)=>ZQ d.1 d.2) ⟨(.cons Nc .nil),XsOk.nil,ItsOk.nil,YlOk.nil,IysOk.nil,XfOk.nil⟩ (Nt) λd hp=>h d.1 d.2 hp
theorem M7:NL:=NJ λf r h=>by
 obtain⟨h1,h2,h3,h4⟩:=h;unfold ZQ;(try delta lI gD sT I64 NF pj8 pj4);obtain⟨k,rfl⟩:=xm (show 0<=f by omega);obtain⟨n,rfl⟩:=xm h3;simp only[zw,Ha] at h4;have hp:=OL (k:=k) (by omega);have h4:n<2 ^ k:=by omega
 have hs:X7 .u64 ((Bc 64 n:Nat):Int) (64-(k:Int))=((Bc k n:Nat):Int):=by rw[show (64-(k:Int))=((64-k:Nat):Int) by omega,Z32 (by omega),Em (by omega) h4]
 have hl:=Rj k n;simp only[zw,hs];refine⟨by simp only[DU];omega,⟨by omega,by omega⟩,by simp only[DU];omega,by simp only[DU];omega,by omega,by simp only[Qm];omega,?_⟩;exact⟨by unfold EM;simp only[zw],trivial⟩
def Xl:AL ((Int×Int×Bool)×Int):=(.cons (.agg (.cons (.k (.i .i64)) (.cons (.k (.i .i64)) (.one (.k .bo))))) (.one (.ptr (.one (.k (.i .i64))))))
def KL (d:(Int×Int×Bool)×Int):Prop:=1<=d.2/\d.2<=24
def X8 (d:(Int×Int×Bool)×Int):SV:=.val .bo (!Zk d.2 (d.1.1,(d.1.2.1,d.1.2.2)))
def X9 (d:(Int×Int×Bool)×Int):List OB:=[]
def J6:CSp:=V7 Xl KL X8 X9
def QZ (cn:Int) (cr:Int) (ct:Bool) (f:Int):Prop :=
 ([cn].length<=1000000)/\((!(!([cn].any λn=>decide (n<(-1:Int))||decide ((59:Int)<n))))=false->True)/\((!(!([cn].any λn=>decide (n<(-1:Int))||decide ((59:Int)<n))))=false->1<=f/\f<=24/\[cr].length<=1000000)/\(((!(!([cn].any λn=>decide (n<(-1:Int))||decide ((59:Int)<n))))||(!(!([cr].any λn=>!inI n 0 (2 ^ f.toNat-1)))))=(!Zk f (cn,(cr,ct)))/\(True))
def Xm:Cx:=⟨[(3,(.i .i64))],[(88,Jv),(102,ZI)],17,[],0,[],[],[],[],false,[],[],[],[]⟩
def Vf (cn:Int) (cr:Int) (ct:Bool) (f:Int):List (Nat×LoopAnn):=[]
theorem Va (d:(Int×Int×Bool)×Int):gwp (Xm) (Vf d.1.1 d.1.2.1 d.1.2.2 d.2) Z0j 0 (Vv [.tmp 3] (X8 d) (X9 d)) (Qw 17 (AL.can Xl d))=QZ d.1.1 d.1.2.1 d.1.2.2 d.2:=by kernel_rfl
abbrev Vd:Prop:=OkC Tryz.prog 123 J6
theorem Ve (h:∀ (cn:Int) (cr:Int) (ct:Bool) (f:Int),(1<=f/\f<=24)->QZ cn cr ct f):OkC Tryz.prog 123 J6 :=
 Z4 FR mixed (C:=Xm) (V:=λ(d:(Int×Int×Bool)×Int)=>QZ d.1.1 d.1.2.1 d.1.2.2 d.2) ⟨(.cons Wp (.cons WG .nil)),XsOk.nil,ItsOk.nil,YlOk.nil,IysOk.nil,XfOk.nil⟩ (Va) λd hp=>h d.1.1 d.1.2.1 d.1.2.2 d.2 hp
theorem Vb:Vd:=Ve λcn cr ct f h=>by obtain⟨h1,h2⟩:=h;unfold QZ;(try delta lI gD sT I64 NF pj8 pj4);have e:∀ n a b:Int,(decide (n<a)||decide (b<n))=!inI n a b:=λn a b=>(nI n a b).symm;simp only[List.any_cons,List.any_nil,wC,e,Bool.not_not,xi,List.length_nil];refine⟨by omega,λ_=>trivial,λ_=>⟨h1,h2,by omega⟩,?_⟩;unfold Zk;rw[Bool.not_and];exact(by and_intros<;>first|rfl|trivial|simp)
def QI:AL ((List (Int×Int×Bool))×((Int×Int×Bool->Prop)×(Int×Int×Bool->Bool))):=(.cons (.k (.list (.pair (.i .i64) (.pair (.i .i64) .bo)))) (.one (.fn [(.pair (.i .i64) (.pair (.i .i64) .bo))] .bo)))
def ZP (d:(List (Int×Int×Bool))×((Int×Int×Bool->Prop)×(Int×Int×Bool->Bool))):Prop:=d.1.length<=1000000/\∀ x∈d.1,d.2.1 x
def QH (d:(List (Int×Int×Bool))×((Int×Int×Bool->Prop)×(Int×Int×Bool->Bool))):SV:=.val (.i .i64) (Gt d.1 d.2.2)
def QG (d:(List (Int×Int×Bool))×((Int×Int×Bool->Prop)×(Int×Int×Bool->Bool))):List OB:=[]
def Qn:CSp:=V7 QI ZP QH QG
def Qc (l:List (Int×Int×Bool)) (p:(Int×Int×Bool->Prop)×(Int×Int×Bool->Bool)):Prop :=
 ∃ (e2:Unit) (d20:Int),((l=l/\(SV.pf [(.pair (.i .i64) (.pair (.i .i64) .bo))] .bo p.1 p.2=SV.pf [(.pair (.i .i64) (.pair (.i .i64) .bo))] .bo p.1 p.2)/\(lI l)=(lI l)/\(0:Int)=d20/\True)/\(True)) /\
 LoopP (λ(d2:Int) (q2:(Int)->Prop) =>
  ((decide (d2<(lI l)))=true ->
   (0<=d2)/\(d2<(List.length l))/\(p.1 ((gD l d2 (0,(0,false))).1,((gD l d2 (0,(0,false))).2.1,(gD l d2 (0,(0,false))).2.2)))/\((p.2 ((gD l d2 (0,(0,false))).1,((gD l d2 (0,(0,false))).2.1,(gD l d2 (0,(0,false))).2.2)))=true ->
    (d2=(Gt l p.2)/\(True))) /\
   ((p.2 ((gD l d2 (0,(0,false))).1,((gD l d2 (0,(0,false))).2.1,(gD l d2 (0,(0,false))).2.2)))=false ->
    (I64 (d2+(1:Int)))/\(∃ d3:Int,((l=l/\(SV.pf [(.pair (.i .i64) (.pair (.i .i64) .bo))] .bo p.1 p.2=SV.pf [(.pair (.i .i64) (.pair (.i .i64) .bo))] .bo p.1 p.2)/\(lI l)=(lI l)/\(d2+(1:Int))=d3/\True)/\(True))/\q2 d3))) /\
  ((decide (d2<(lI l)))=false ->
   ((-1:Int)=(Gt l p.2)/\(True)))) d20
def QJ:Cx:=⟨[],[],19,[],0,[],[],[],[],false,[],[],[],[]⟩
def ZX (l:List (Int×Int×Bool)) (p:(Int×Int×Bool->Prop)×(Int×Int×Bool->Bool)):List (Nat×LoopAnn):=[(0,⟨Unit,Int,[0,1,7,8],λe x=>[.val (.list (.pair (.i .i64) (.pair (.i .i64) .bo))) l,.pf [(.pair (.i .i64) (.pair (.i .i64) .bo))] .bo p.1 p.2,.val (.i .i64) (((List.length l):Nat):Int),.val (.i .i64) x],λe x=>[]⟩)]
theorem ZU (d:(List (Int×Int×Bool))×((Int×Int×Bool->Prop)×(Int×Int×Bool->Bool))):gwp (QJ) (ZX d.1 d.2) Z00 0 (Vv [.tmp 4] (QH d) (QG d)) (Qw 19 (AL.can QI d))=Qc d.1 d.2:=by kernel_rfl
abbrev ZY:Prop:=OkC Tryz.prog 148 Qn
theorem ZT (h:∀ (l:List (Int×Int×Bool)) (p:(Int×Int×Bool->Prop)×(Int×Int×Bool->Bool)),(l.length<=1000000/\∀ x∈l,p.1 x)->Qc l p):OkC Tryz.prog 148 Qn :=
 Z4 F5 mixed (C:=QJ) (V:=λ(d:(List (Int×Int×Bool))×((Int×Int×Bool->Prop)×(Int×Int×Bool->Bool)))=>Qc d.1 d.2) ⟨.nil,XsOk.nil,ItsOk.nil,YlOk.nil,IysOk.nil,XfOk.nil⟩ (ZU) λd hp=>h d.1 d.2 hp
theorem ZS:ZY:=ZT λl p hp=>by
 unfold Qc;(try delta lI gD sT I64 NF pj8 pj4);simp only[true_and,and_true,exists_eq_left',exists_const,zk,xy];refine LoopP.count l.length (λk=>(l.take k).any p.2=false) (by simp) λk bw hJ q hq=>?_;simp only[zw,Int.ofNat_lt,Qm];refine⟨λah=>?_,λbn=>?_⟩
 .have ah:k<l.length:=by omega
  rw[Qh ah];refine⟨by omega,by omega,hp.2 _ (zr ah),λhx=>?_,λhx=>⟨by omega,hq ah ?_⟩⟩
  .rw[SB ah hx hJ]
  .rw[KX ah,List.any_append,hJ];simp[hx]
 .rw[zy (by omega)] at hJ;rw[Hw hJ]
def QA:AL ((List (Int×Int×Bool))×((Int×Int×Bool->Prop)×(Int×Int×Bool->Bool))):=(.cons (.k (.list (.pair (.i .i64) (.pair (.i .i64) .bo)))) (.one (.fn [(.pair (.i .i64) (.pair (.i .i64) .bo))] .bo)))
def Zr (d:(List (Int×Int×Bool))×((Int×Int×Bool->Prop)×(Int×Int×Bool->Bool))):Prop:=d.1.length<=1000000/\∀ x∈d.1,d.2.1 x
def Qy (d:(List (Int×Int×Bool))×((Int×Int×Bool->Prop)×(Int×Int×Bool->Bool))):SV:=.val .bo (d.1.any d.2.2)
def Qz (d:(List (Int×Int×Bool))×((Int×Int×Bool->Prop)×(Int×Int×Bool->Bool))):List OB:=[]
def Qj:CSp:=V7 QA Zr Qy Qz
def Qa (l:List (Int×Int×Bool)) (p:(Int×Int×Bool->Prop)×(Int×Int×Bool->Bool)):Prop :=
 (l.length<=1000000/\∀ x∈l,(λ(x1:Int×Int×Bool)=>p.1 (x1.1,(x1.2.1,x1.2.2))) x)/\((decide ((Gt l (λ(x1:Int×Int×Bool)=>(p.2 (x1.1,(x1.2.1,x1.2.2)))))>=(0:Int)))=(l.any p.2)/\(True))
def QB:Cx:=⟨[],[(148,Qn)],9,[],0,[],[],[],[],false,[],[],[],[]⟩
def ZE (l:List (Int×Int×Bool)) (p:(Int×Int×Bool->Prop)×(Int×Int×Bool->Bool)):List (Nat×LoopAnn):=[]
theorem ZC (d:(List (Int×Int×Bool))×((Int×Int×Bool->Prop)×(Int×Int×Bool->Bool))):gwp (QB) (ZE d.1 d.2) Z0d 0 (Vv [.tmp 4] (Qy d) (Qz d)) (Qw 9 (AL.can QA d))=Qa d.1 d.2:=by kernel_rfl
abbrev ZB:Prop:=OkC Tryz.prog 124 Qj
theorem ZA (h:∀ (l:List (Int×Int×Bool)) (p:(Int×Int×Bool->Prop)×(Int×Int×Bool->Bool)),(l.length<=1000000/\∀ x∈l,p.1 x)->Qa l p):OkC Tryz.prog 124 Qj :=
 Z4 F9 mixed (C:=QB) (V:=λ(d:(List (Int×Int×Bool))×((Int×Int×Bool->Prop)×(Int×Int×Bool->Bool)))=>Qa d.1 d.2) ⟨(.cons ZS .nil),XsOk.nil,ItsOk.nil,YlOk.nil,IysOk.nil,XfOk.nil⟩ (ZC) λd hp=>h d.1 d.2 hp
theorem ZD:ZB:=ZA λl p hp=>by simp only[Qa];exact⟨hp,Q0l l p.2,trivial⟩
def W1:AL (Int×List (Int×Int×Bool)):=(.cons (.k (.i .i64)) (.one (.k (.list (.pair (.i .i64) (.pair (.i .i64) .bo))))))
def VC (d:Int×List (Int×Int×Bool)):Prop:=1<=d.1/\d.1<=24/\d.2.length<=1000000
def XD (d:Int×List (Int×Int×Bool)):SV:=.val .bo (!d.2.isEmpty&&!(d.2.any λc=>!Zk d.1 c))
def XF (d:Int×List (Int×Int×Bool)):List OB:=[]
def QU:CSp:=V7 W1 VC XD XF
def Zd (f:Int) (cs:List (Int×Int×Bool)):Prop :=
 ((decide ((lI cs) > (0:Int)))=true->cs.length<=1000000/\∀ x∈cs,(λ(x1:Int×Int×Bool)=>1<=f/\f<=24) x)/\(((decide ((lI cs) > (0:Int)))&&(!(cs.any (λ(x1:Int×Int×Bool)=>(!Zk f (x1.1,(x1.2.1,x1.2.2)))))))=(!cs.isEmpty&&!(cs.any λc=>!Zk f c))/\(True))
def W8:Cx:=⟨[],[(124,Qj),(123,J6)],16,[],0,[],[],[],[],false,[],[],[],[]⟩
def U8 (f:Int) (cs:List (Int×Int×Bool)):List (Nat×LoopAnn):=[]
theorem U3 (d:Int×List (Int×Int×Bool)):gwp (W8) (U8 d.1 d.2) c86 0 (Vv [.tmp 4] (XD d) (XF d)) (Qw 16 (AL.can W1 d))=Zd d.1 d.2:=by kernel_rfl
abbrev Uh:Prop:=OkC Tryz.prog 86 QU
theorem U2 (h:∀ (f:Int) (cs:List (Int×Int×Bool)),(1<=f/\f<=24/\cs.length<=1000000)->Zd f cs):OkC Tryz.prog 86 QU :=
 Z4 Q52 mixed (C:=W8) (V:=λ(d:Int×List (Int×Int×Bool))=>Zd d.1 d.2) ⟨(.cons ZD (.cons Vb .nil)),XsOk.nil,ItsOk.nil,YlOk.nil,IysOk.nil,XfOk.nil⟩ (U3) λd hp=>h d.1 d.2 hp
theorem Jk:Uh:=U2 λf cs h=>by
 obtain⟨h1,h2,h3⟩:=h;unfold Zd;(try delta lI gD sT I64 NF pj8 pj4);refine⟨λ_=>⟨h3,λ_ _=>⟨h1,h2⟩⟩,?_⟩;have:decide ((cs.length:Int) > 0)=!cs.isEmpty:=by cases cs<;>simp
 rw[this];exact(by and_intros<;>first|rfl|trivial|simp)
def GK:Cx:=⟨[],[(87,Z2),(86,QU)],30,[],0,[],[],[],[],false,[],[],[],[]⟩
def NU:XSp:=Q0j GK (λ_=>[]) Q9x [.cell 2 true 3,.tmp 3] 30
theorem MD:XOk Tryz.prog 103 NU:=NV FQ mixed (C:=GK) ⟨(.cons JA (.cons Jk .nil)),XsOk.nil,ItsOk.nil,YlOk.nil,IysOk.nil,XfOk.nil⟩ _
def Kt:AL ((Int×(List (Int×Int×Bool))×Int)×Int):=(.cons (.agg (.cons (.k (.i .i64)) (.cons (.k (.list (.pair (.i .i64) (.pair (.i .i64) .bo)))) (.one (.k (.i .i64)))))) (.one (.k (.i .i64))))
def My (d:(Int×(List (Int×Int×Bool))×Int)×Int):Prop:=1<=d.1.2.2/\d.1.2.2<=24/\0<=d.2/\d.2<d.1.2.1.length/\∀ c∈d.1.2.1,Zk d.1.2.2 c=true
def Yv (d:(Int×(List (Int×Int×Bool))×Int)×Int):SV:=.val (.i .i64) (Ga d.1.2.2 (d.1.2.1.getD d.2.toNat Dd))
def Yw (d:(Int×(List (Int×Int×Bool))×Int)×Int):List OB:=[]
def Wn:CSp:=V7 Kt My Yv Yw
def Jm (hk:Int) (cs:List (Int×Int×Bool)) (f:Int) (at_:Int):Prop :=
 (0<=at_)/\(at_<(List.length cs))/\((gD cs at_ (0,(0,false))).2.2=true ->
  (1<=f/\f<=24/\0<=((gD cs at_ (0,(0,false))).2.1)/\((gD cs at_ (0,(0,false))).2.1)<2 ^ f.toNat)/\((EM f ((gD cs at_ (0,(0,false))).2.1))=(Ga f (cs.getD at_.toNat Dd))/\(True))) /\
 ((gD cs at_ (0,(0,false))).2.2=false ->
  (0<=at_)/\(at_<(List.length cs))/\((gD cs at_ (0,(0,false))).2.1=(Ga f (cs.getD at_.toNat Dd))/\(True)))
def Ko:Cx:=⟨[],[(137,Xc)],26,[],0,[],[],[],[],false,[],[],[],[]⟩
def Gb (hk:Int) (cs:List (Int×Int×Bool)) (f:Int) (at_:Int):List (Nat×LoopAnn):=[]
theorem G2 (d:(Int×(List (Int×Int×Bool))×Int)×Int):gwp (Ko) (Gb d.1.1 d.1.2.1 d.1.2.2 d.2) Z01 0 (Vv [.tmp 4] (Yv d) (Yw d)) (Qw 26 (AL.can Kt d))=Jm d.1.1 d.1.2.1 d.1.2.2 d.2:=by kernel_rfl
abbrev G1:Prop:=OkC Tryz.prog 104 Wn
theorem G9 (h:∀ (hk:Int) (cs:List (Int×Int×Bool)) (f:Int) (at_:Int),(1<=f/\f<=24/\0<=at_/\at_<cs.length/\∀ c∈cs,Zk f c=true)->Jm hk cs f at_):OkC Tryz.prog 104 Wn :=
 Z4 EY mixed (C:=Ko) (V:=λ(d:(Int×(List (Int×Int×Bool))×Int)×Int)=>Jm d.1.1 d.1.2.1 d.1.2.2 d.2) ⟨(.cons M7 .nil),XsOk.nil,ItsOk.nil,YlOk.nil,IysOk.nil,XfOk.nil⟩ (G2) λd hp=>h d.1.1 d.1.2.1 d.1.2.2 d.2 hp
theorem G4:G1:=G9 λhk cs f at_ h=>by
 obtain⟨h1,h2,h3,h4,h5⟩:=h;unfold Jm;(try delta lI gD sT I64 NF pj8 pj4);have hd:∀ j,cs.getD j (0,(0,false))=cs.getD j Dd:=λ_=>rfl;have hj:at_.toNat<cs.length:=by omega
 have hc:=DX (h5 _ (show cs.getD at_.toNat Dd∈cs by rw[Qh hj];exact zr hj));simp only[hd,and_true];refine⟨h3,by omega,λc=>⟨⟨h1,h2,hc.1,hc.2⟩,?_⟩,λc=>⟨h3,by omega,?_⟩⟩
 .unfold Ga;rw[z8 c]
 .unfold Ga;rw[zd (by rw[c];decide)]
def Kf:AL ((Int×(List (Int×Int×Bool))×Int)×Int×Int):=(.cons (.agg (.cons (.k (.i .i64)) (.cons (.k (.list (.pair (.i .i64) (.pair (.i .i64) .bo)))) (.one (.k (.i .i64)))))) (.cons (.k (.i .i64)) (.one (.k (.i .i64)))))
def Mz (d:(Int×(List (Int×Int×Bool))×Int)×Int×Int):Prop:=d.1.2.1≠[]/\d.1.2.1.length<=1000/\-1000000<=d.2.1/\d.2.1<=1000000/\-1000000<=d.2.2/\d.2.2<=1000000
def YB (d:(Int×(List (Int×Int×Bool))×Int)×Int×Int):SV:=.val (.i .i64) (Int.tmod (d.2.1+d.2.2) d.1.2.1.length)
def YA (d:(Int×(List (Int×Int×Bool))×Int)×Int×Int):List OB:=[]
def ZK:CSp:=V7 Kf Mz YB YA
def Jn (hk:Int) (cs:List (Int×Int×Bool)) (f:Int) (at_:Int) (st:Int):Prop :=
 (I64 (at_+st))/\((lI cs)≠0)/\((Int.tmod (at_+st) (lI cs))=(Int.tmod (at_+st) cs.length)/\(True))
def KI:Cx:=⟨[],[],15,[],0,[],[],[],[],false,[],[],[],[]⟩
def Gj (hk:Int) (cs:List (Int×Int×Bool)) (f:Int) (at_:Int) (st:Int):List (Nat×LoopAnn):=[]
theorem Gk (d:(Int×(List (Int×Int×Bool))×Int)×Int×Int):gwp (KI) (Gj d.1.1 d.1.2.1 d.1.2.2 d.2.1 d.2.2) c78 0 (Vv [.tmp 6] (YB d) (YA d)) (Qw 15 (AL.can Kf d))=Jn d.1.1 d.1.2.1 d.1.2.2 d.2.1 d.2.2:=by kernel_rfl
abbrev M_:Prop:=OkC Tryz.prog 78 ZK
theorem Gg (h:∀ (hk:Int) (cs:List (Int×Int×Bool)) (f:Int) (at_:Int) (st:Int),(cs≠[]/\cs.length<=1000/\-1000000<=at_/\at_<=1000000/\-1000000<=st/\st<=1000000)->Jn hk cs f at_ st):OkC Tryz.prog 78 ZK :=
 Z4 Q48 mixed (C:=KI) (V:=λ(d:(Int×(List (Int×Int×Bool))×Int)×Int×Int)=>Jn d.1.1 d.1.2.1 d.1.2.2 d.2.1 d.2.2) ⟨.nil,XsOk.nil,ItsOk.nil,YlOk.nil,IysOk.nil,XfOk.nil⟩ (Gk) λd hp=>h d.1.1 d.1.2.1 d.1.2.2 d.2.1 d.2.2 hp
theorem XB:M_:=Gg λhk cs f at_ st h=>by obtain⟨h1,h2,h3,h4,h5,h6⟩:=h;unfold Jn;(try delta lI gD sT I64 NF pj8 pj4);have:=xC.2 h1;exact⟨by simp only[Qm];omega,by omega,rfl,trivial⟩
end Go.Proofs.Tryz
namespace Go.V
open Go
theorem Sb {α:Type}:∀ (j:Nat) (x:α) (l:List α),(LZ j x l).length=l.length+1
 |0,_,_=>rfl
 |j+1,x,[]=>rfl
 |j+1,x,a::l=>by simp only[LZ,xi];rw[Sb j x l]
def Q09 (ap:Ap) (kk vk:Kind) (sp:PSp kk vk):XSp:=λd args s K=>match sp ap (Bv s.own args) with
 |some (c,_,post)=>c/\∀ m',post m'->K (.map d) (s.make d (.map kk vk m'))
 |none=>False
def Q4v (rs:List VResult) (kk vk:Kind) (post:List (kk.T×vk.T)->Prop):Exit->St->Prop:=λe s =>
 let fin:=match JJ s rs with
  |some (.map k)=>(match R5 kk vk (Q8 s.own k) with
   |some m'=>post m'
   |none=>False)
  |_=>False
 match e with
 |.normal=>fin
 |.ret=>fin
 |_=>False
section
variable {P:Program}
theorem Q0q {f:Nat}{vc:VCode}{rs:List VResult}{nt:Nat}(h:Fun P f vc rs nt) (hm:P.follows .mixedOrders=true) {kk vk:Kind}(bH:(kk.flat&&vk.flat)=true) {sp:PSp kk vk}{ap:Ap}
  (hb:∀ fv c vs post,sp ap fv=some (c,vs,post)->c->∃ (C:Cx) (L:List (Nat×LoopAnn)) (dS:List SV),SVs.pure dS=true/\(∀ U us,SRs P U Jg Zh fv us->SRs P U Jg Zh dS us)/\COk P C/\gwp C L vc 0 (Q4v rs kk vk post) (Yz nt dS)):XOk P f (Q09 ap kk vk sp):=by
 intro B F pl tb s env U d args vals K R hG ha hx hK;unfold Q09 at hx;split at hx
 .rename_i c vs post cy;obtain⟨hc,hx⟩:=hx;obtain⟨C,L,dS,dG,kG,ew,hg⟩:=hb _ c vs post cy hc;have ax:=kG U vals (Y0 (own:=s.own) hG.leB (pl:=pl) (tb:=tb) (λd=>hG.obj d) ha);have bg:GRel P U U U (Yz nt dS) (vals++List.replicate (nt-vals.length) undef) U:=by
   refine⟨U,U,λ_=>poison,Zh,⟨.refl _,.refl _,λ_ _ _ h=>h,.refl _⟩,.refl _,.refl _,?_,λk=>?_,λk i' h1 h2=>?_,λk k' i' kH h1 h2 h3 h4=>?_,λ_ _=>rfl⟩
   .simp only[Yz];rw[ax.length];exact SRs.append (QF _ _ dG ax) (Ni _)
   .simp only[Yz,Q8];trivial
   .simp only[Yz,Q8] at h1;cases h1
   .simp only[Yz,Q8] at h1;cases h1
  refine h.calls hm GC ?_;refine Ye ew vc 0 _ _ _ U none _ trivial bg hg λe s' af U' h1 h2=>?_
  have main:(match JJ s' rs with
   |some (.map k)=>(match R5 kk vk (Q8 s'.own k) with
    |some m'=>post m'
    |none=>False)
   |_=>False)->QS (Zu af U' rs) λv=>∃ v' aE,DropTo U v U' v' aE/\R v' aE:=λh=>by
   obtain⟨B',F',pl',tb',k1,k2⟩:=h2;split at h
   .rename_i k hr;split at h
    .rename_i m' lU;have g2:=h;have aJ:=Mp lU;obtain⟨w,h3,h4⟩:=ZV k2 hr;rw[h3];simp only[SR] at h4;obtain⟨rfl,_⟩:=h4;have ao:=k2.obj k;rw[aJ] at ao;have hle:U.Le U':=k1.f.trans k2.le;have mG:OR P B (Jf pl d (pl' k)) tb U' (pl' k) (.map kk vk m'):=ao.retd bH λ_ _=>rfl;have aq:(Q8 s'.own k).live=true:=by rw[aJ];rfl
     have fS:∀ i,Oid (pl' k) i->U.get i=none:=λi hi=>by
      cases hg:U.get i with
      |none=>rfl
      |some b =>have:=k2.fresh k i aq hi;have h9:=k1.f.2 _ _ hg;rw[this] at h9;cases h9
     have mH:Gam P B F (Jf pl d (pl' k)) tb (s.make d (.map kk vk m')) env U':=by
      refine hG.make d _ (pl' k) (hG.le.trans hle) (λj i _ hl hi=>?_) mG λi _ hi=>⟨?_,λj _ hl hj=>?_⟩
      .cases hg:U.get i with
       |none=>exact k1.d.2 i ((hG.obj j).q0w hl hi) hg
       |some bb=>exact hle.2 _ _ hg
      .cases hg:F.get i with
       |none=>rfl
       |some b=>have:=hG.le.2 _ _ hg;rw[fS i hi] at this;cases this
      .have ah:=(hG.obj j).q0w hl hj;have:=k1.d.2 i ah (fS i hi);obtain⟨id,es,clock,e1,e2,_⟩:=mG;rw[e1] at hi;obtain rfl:id=i:=osj hi;rw[this] at e2;cases e2
     refine⟨_,U',.refl _ _ _,hK _ _ B F _ tb _ U' (hx m' g2) (.of hG.bf k1.d) mH ?_⟩;obtain⟨id,es,clock,e1,_⟩:=mG;simp only[SR];exact⟨by simp[Jf],_,e1⟩
    .exact h.elim
   .exact h.elim
  cases e with
  |normal=>exact main h1
  |ret=>exact main h1
  |_=>exact h1.elim
 .exact hx.elim
theorem Q05 {f:Nat}{vc:VCode}{rs:List VResult}{nt:Nat}(h:Fun P f vc rs nt) (hm:P.follows .mixedOrders=true) {ap:Ap}(dR:Ey P ap) {kk vk:Kind}(bH:(kk.flat&&vk.flat)=true) {D:Type}{la:AL D}{pre:D->Prop}{res:D->List SV}{post:D->List (kk.T×vk.T)->Prop}
  {C:Cx}(aA:COk P C) {L:D->List (Nat×LoopAnn)}{V:D->Prop}
  (hq:∀ y,gwp C (L y) vc 0 (Q4v rs kk vk (post y)) (Yz nt (AL.can la y))=V y)
  (hb:∀ y,pre y->V y):XOk P f (Q09 ap kk vk (Q6f la pre res post)):=Q0q h hm bH λfv c vs q hs hc=>by
 unfold Q6f at hs;split at hs
 .rename_i y h2;obtain⟨rfl,rfl,rfl⟩:=(by simpa using hs:pre y=c/\res y=vs/\post y=q);exact⟨C,L y,AL.can la y,AL.q0l la y,λU vs hv=>AL.q0k dR la h2 hv,aA,(hq y).mpr (hb y hc)⟩
 .cases hs
end
end Go.V
namespace Go.V
open Go
abbrev KSp (kk vk:Kind):=Ap->List (kk.T×vk.T)->List SV->Option (Prop×SV×(List (kk.T×vk.T)->Prop))
def Q0n (ap:Ap) (j:Nat) (kk vk:Kind) (sp:KSp kk vk):XSp:=λ_ args s K =>
 match args[j]? with
 |some (.map o)=>(match R5 kk vk (Q8 s.own o) with
  |some m=>(match sp ap m (Bv (oset s.own o .dead) (Lx j args)) with
   |some (c,v,post)=>bif v.ret 0 then c/\∀ m',post m'->K v ⟨s.env,oset s.own o (.map kk vk m'),s.nx⟩ else False
   |none=>False)
  |none=>False)
 |_=>False
def Dg (nt j:Nat) (kk vk:Kind) (m:List (kk.T×vk.T)) (vals:List Value) (args:List SV):St:=⟨LZ j (.map 0) args++List.replicate (nt-(args.length+1)) .any,[(0,.map kk vk m),(4000000,.stk [.map 0] vals)],0⟩
def Z2w {kk vk:Kind}{D:Type}(la:AL D) (pre:List (kk.T×vk.T)->D->Prop) (res:List (kk.T×vk.T)->D->SV) (post:List (kk.T×vk.T)->D->List (kk.T×vk.T)->Prop):KSp kk vk:=λap m fv=>match AL.dec ap la fv with
 |some a=>some (pre m a,res m a,post m a)
 |none=>none
section
variable {P:Program}
theorem O2 {f:Nat}{vc:VCode}{rs:List VResult}{nt:Nat}(h:Fun P f vc rs nt) (hm:P.follows .mixedOrders=true) {kk vk:Kind}(bH:(kk.flat&&vk.flat)=true) {sp:KSp kk vk}{ap:Ap}{j:Nat}
  (hb:∀ m fv c v post,sp ap m fv=some (c,v,post)->c->∃ (C:Cx) (L:List Value->List (Nat×LoopAnn)) (dS:List SV),SVs.pure dS=true/\(∀ U vs,SRs P U Jg Zh fv vs->SRs P U Jg Zh dS vs)/\COk P C/\∀ vals,gwp C (L vals) vc 0 (Q5y vals rs v kk vk post) (Dg nt j kk vk m vals dS)):XOk P f (Q0n ap j kk vk sp):=by
 intro B F pl tb s env U d args vs K R hG ha hx hK;unfold Q0n at hx;split at hx
 .rename_i o ig;split at hx
  .rename_i m aH;have aJ:=Mp aH;split at hx
   .rename_i c v post cy;cases bY:v.ret 0 with
    |false=>rw[bY] at hx;exact hx.elim
    |true =>
    rw[bY] at hx;obtain⟨hc,hx⟩:=hx;obtain⟨w,hw,rM,rN⟩:=IB j ig ha;simp only[SR] at hw;obtain rfl:w=pl o:=hw.1;have aq:(Q8 s.own o).live=true:=by rw[aJ];rfl
    have ao:=hG.obj o;rw[aJ] at ao;obtain⟨id,es,clock,iK,bh,eT⟩:=ao;have o_:F.get id=none:=hG.fresh o id aq (by rw[iK];rfl);have mI:B.get id=none:=by
     cases hg:B.get id with
     |none=>rfl
     |some b=>have:=hG.bf.2 _ _ hg;rw[o_] at this;cases this
    obtain⟨C,L,dS,dG,kG,ew,hg⟩:=hb _ _ c v post cy hc;have hg:=hg [pl o];have vl:oid (pl o)=some id:=by rw[iK];rfl
    let σc:=U.kill id;have pV:B.Le σc:=hG.leB.kill' mI;have pW:F.Le σc:=hG.le.kill' o_;have rO:σc.Le U:=Heap.q2c _ _;have bV:∀ k,k≠id->σc.get k=U.get k:=λk hk=>Heap.q0d _ hk;have bQ:∀ d,OR P σc Jg Zh σc (pl d) ((Q8 (oset s.own o .dead) d).kill d)\/True:=λ_=>.inr trivial;have vn:∀ (xs:List SV) (vs:List Value),SRs P B pl tb xs vs->SRs P σc Jg Zh (Bv (oset s.own o .dead) xs) vs:=λxs vs bu=>by
     refine Y0 (own:=oset s.own o .dead) pV (pl:=pl) (tb:=tb) (λd=>?_) bu;rw[Qi];by_cases e:d=o
     .rw[z8 e];trivial
     .rw[zd e];exact(hG.obj d).mono (.refl _) (λ_ _ h=>h) λhl i hi=>bV _ λkf=>hG.sep d o i e hl aq hi (by rw[iK,kf];rfl)
    have ax:=kG σc _ (vn _ _ rM);let jK:Nat->Value:=λk=>if k=0 then pl o else poison
    have lK:∀ (B:Heap) (tb':Nat->Option Bool),SR P B jK tb' (.map 0) (pl o):=λB tb'=>by simp only[SR];exact⟨by simp[jK],_,iK⟩
    have bg:GRel P σc σc U (Dg nt j kk vk m [pl o] dS) (vs++List.replicate (nt-vs.length) undef) U:=by
     refine⟨σc,σc,jK,Zh,⟨.refl _,.refl _,λ_ _ _ h=>h,.refl _⟩,.refl _,rO,?_,λk=>?_,λk i' h1 h2=>?_,λk k' i' kH h1 h2 h3 h4=>?_,λ_ _=>rfl⟩
     .have h0:=rN σc jK Zh dS (.map 0) (QF _ _ dG ax) (lK _ _);have hl:=h0.length;rw[Sb] at hl;simp only[Dg];rw[hl];exact SRs.append h0 (Ni _)
     .simp only[Dg,Q8];by_cases e0:k=0
      .subst e0;simp only[Nat.beq_refl,zl];exact⟨id,es,clock,by simp[jK,iK],bh,eT.mono pV⟩
      .rw[Zo (λe=>e0 e.symm),cond_false];by_cases e1:k=4000000
       .subst e1;simp only[Nat.beq_refl,zl];exact⟨pl o,[],rfl,lK _ _,rfl⟩
       .rw[Zo (λe=>e1 e.symm),cond_false];trivial
     .simp only[Dg,Q8] at h1;by_cases e0:k=0
      .subst e0;have:Oid (pl o) i':=by simpa [jK] using h2
       rw[iK] at this;obtain rfl:id=i':=osj this;exact Heap.q0g _ _
      .rw[Zo (λe=>e0 e.symm),cond_false] at h1;by_cases e1:k=4000000
       .subst e1;cases h1
       .rw[Zo (λe=>e1 e.symm),cond_false] at h1;cases h1
     .have z:∀ k,(Q8 (Dg nt j kk vk m [pl o] dS).own k).live=true->k=0:=λk h1=>by
       simp only[Dg,Q8] at h1;by_cases e0:k=0
       .exact e0
       .rw[Zo (λe=>e0 e.symm),cond_false] at h1;by_cases e1:k=4000000
        .subst e1;cases h1
        .rw[Zo (λe=>e1 e.symm),cond_false] at h1;cases h1
      exact kH ((z k h1).trans (z k' h2).symm)
    refine h.calls hm GC ?_;refine Ye ew vc 0 _ _ _ U none _ trivial bg hg λe s' af U' h1 h2=>?_
    have main:(match JJ s' rs,Q8 s'.own 4000000,R5 kk vk (Q8 s'.own 0) with
     |some r,.stk l vs,some m'=>vs=[pl o]/\VO [(0,some 0)] [.map 0] l/\Bo [] v r/\post m'
     |_,_,_=>False)->QS (Zu af U' rs) λv=>∃ v' aE,DropTo U v U' v' aE/\R v' aE:=λh=>by
     obtain⟨B',F',pl',tb',k1,k2⟩:=h2;split at h
     .rename_i r l' cW m' hr gQ nk;obtain⟨rfl,m1,m2,m3⟩:=h;have fP:=Mp nk;obtain⟨w,h3,h4⟩:=ZV k2 hr;rw[h3];have fW:=k2.obj 4000000;rw[gQ] at fW;have mK:pl' 0=pl o:=by
       have:=QV [.map 0] l' [pl o] m1 fW;simp only[SRs,SR] at this;obtain⟨u',_,cB,⟨h5,_⟩,_⟩:=this;obtain rfl:pl o=u':=(zR cB).1;simpa [Vl,Qq] using h5.symm
      have jq:=k2.obj 0;rw[fP,mK] at jq;have dp:=(WV v r w m2 h4).retd (B':=B) (pl':=pl) (tb':=tb) (n:=0) (λj hj=>by omega) _ _ bY;have hle:σc.Le U':=k1.f.trans k2.le;have pa:∀ d,d≠o->(Q8 s.own d).live=true->∀ i,Oid (pl d) i->U'.get i=U.get i:=λd e hl i hi=>by
       have ah:=(hG.obj d).q0w hl hi;have vp:i≠id:=λkf=>hG.sep d o i e hl aq hi (by rw[iK,kf];rfl);cases hg:U.get i with
       |none=>exact k1.d.2 i ah hg
       |some bb=>exact hle.2 _ _ (by rw[bV i vp];exact hg)
      have bW:∀ d,(Q8 (oset s.own o (.map kk vk m')) d).live=(Q8 s.own d).live:=λd=>by
       rw[Qi];by_cases e:d=o
       .subst e;rw[z8 rfl,aq];rfl
       .rw[zd e]
      refine⟨w,U',.refl _ _ _,hK v _ B F pl tb w U' (hx m' m3) (.of hG.bf k1.d) ⟨hG.bf,pW.trans hle,hG.env,λd=>?_,λd i q1 q2=>hG.fresh d i (by rw[<-bW d];exact q1) q2,λd d' i aB q1 q2 q3 q4=>hG.sep d d' i aB (by rw[<-bW d];exact q1) (by rw[<-bW d'];exact q2) q3 q4,hG.free⟩ dp⟩
      .simp only[Qi];by_cases e:d=o
       .subst e;rw[z8 rfl];exact jq.retd bH λ_ _=>rfl
       .rw[zd e];exact(hG.obj d).mono (.refl _) (λ_ _ h=>h) λhl i hi=>pa d e hl i hi
     .exact h.elim
    cases e with
    |normal=>exact main h1
    |ret=>exact main h1
    |_=>exact h1.elim
   .exact hx.elim
  .exact hx.elim
 .exact hx.elim
theorem O0 {f:Nat}{vc:VCode}{rs:List VResult}{nt:Nat}(h:Fun P f vc rs nt) (hm:P.follows .mixedOrders=true) {ap:Ap}(dR:Ey P ap) {kk vk:Kind}(bH:(kk.flat&&vk.flat)=true) {j:Nat}{D:Type}{la:AL D}{pre:List (kk.T×vk.T)->D->Prop}{res:List (kk.T×vk.T)->D->SV}{post:List (kk.T×vk.T)->D->List (kk.T×vk.T)->Prop}
  {C:Cx}(aA:COk P C) {L:List (kk.T×vk.T)->D->List Value->List (Nat×LoopAnn)}{V:List (kk.T×vk.T)->D->Prop}
  (hq:∀ m y,(∀ vals,gwp C (L m y vals) vc 0 (Q5y vals rs (res m y) kk vk (post m y)) (Dg nt j kk vk m vals (AL.can la y)))=V m y)
  (hb:∀ m y,pre m y->V m y):XOk P f (Q0n ap j kk vk (Z2w la pre res post)):=O2 h hm bH λm fv c v q hs hc=>by
 unfold Z2w at hs;split at hs
 .rename_i y h2;obtain⟨rfl,rfl,rfl⟩:=(by simpa using hs:pre m y=c/\res m y=v/\post m y=q);exact⟨C,L m y,AL.can la y,AL.q0l la y,λU vs hv=>AL.q0k dR la h2 hv,aA,(hq m y).mpr (hb m y hc)⟩
 .cases hs
end
end Go.V
namespace Go.Proofs.Tryz
open Go Go.V Go.Proofs
def Z3 (n mo:Nat):List (Int×Int):=(List.range n).flatMap λ(a:Nat)=>(List.range (mo+1)).map λ(f:Nat)=>((a:Int),(f:Int))
def Nh (n:Int) (p:Int×Int) (s:Int):Int×Int:=(Int.tmod (p.1+s) n,p.2+if s=1 then 0 else 1)
def N2 (n mo:Int) (p:Int×Int) (w:Int) (q:Int×Int) (s:Int):Int:=if Nh n p s=q/\q.2<=mo then w else 0
def BE (n mo:Int) (wv:Int->Bool) (p:Int×Int) (w:Int) (q:Int×Int):Int:=if wv p.1=true then N2 n mo p w q 0+N2 n mo p w q 1+N2 n mo p w q 2 else 0
def wyK (n mo:Nat) (wv:Nat->Int->Bool):Nat->Int×Int->Int
 |0,q=>if 0<=q.1/\q.1<(n:Int)/\q.2=0 then 1 else 0
 |k+1,q=>((Z3 n mo).map λp=>BE n mo (wv k) p (wyK n mo wv k p) q).sum
def MapW (n mo:Nat) (m:List ((Int×Int)×Int)) (W:Int×Int->Int):Prop:=(m.map (·.1)).Nodup/\(∀ e∈m,e.2=W e.1/\0<e.2/\e.1∈Z3 n mo)/\∀ q,W q≠0->∃ e∈m,e.1=q
theorem Zi {n mo:Nat}{q:Int×Int}:q∈Z3 n mo<->(0<=q.1/\q.1<n)/\0<=q.2/\q.2<=mo:=by
 unfold Z3;simp only[List.mem_flatMap,zF,zI];constructor
 .rintro⟨a,ha,f,hf,rfl⟩;dsimp only;omega
 .intro h;exact⟨q.1.toNat,by omega,q.2.toNat,by omega,by ext<;>dsimp only<;>omega⟩
theorem K0 (n mo:Nat):(Z3 n mo).Nodup:=by unfold Z3;refine List.pairwise_flatMap.2 ⟨λa _=>wK.2 ((List.nodup_range (n:=mo+1)).imp λh e=>h (by have:=(Prod.ext_iff.1 e).2;dsimp only at this;omega)),(List.nodup_range (n:=n)).imp λ{a b} h x hx y hy e=>?_⟩;obtain⟨f,_,rfl⟩:=zI.1 hx;obtain⟨g,_,rfl⟩:=zI.1 hy;have:=(Prod.ext_iff.1 e).1;dsimp only at this;omega
theorem RU {l l':List Int}(h:l.Perm l'):l.sum=l'.sum:=by
 induction h with
 |nil=>rfl
 |cons x _ ih=>simp only[xx];omega
 |swap x y l=>simp only[xx];omega
 |trans _ _ h1 h2=>exact h1.trans h2
theorem GM {α:Type}{f:α->Int}:∀ {l:List α},(∀ x∈l,f x=0)->(l.map f).sum=0
 |[],_=>rfl
 |x::l,h=>by rw[zE,xx,h x (zq ..),GM λy hy=>h y (zi _ hy)];rfl
theorem XU {α:Type}{f:α->Int}:∀ {l:List α},(∀ x∈l,0<=f x)->0<=(l.map f).sum
 |[],_=>Int.le_refl _
 |x::l,h=>by have h1:=h x (zq ..);have h2:=XU (l:=l) λy hy=>h y (zi _ hy);rw[zE,xx];omega
theorem TX {α:Type}(f:α->Int) (a b:List α):((a++b).map f).sum=(a.map f).sum+(b.map f).sum:=by rw[xQ,List.sum_append_int]
theorem PA {n mo:Nat}{m:List ((Int×Int)×Int)}{W:Int×Int->Int}(h:MapW n mo m W) (G:Int×Int->Int->Int) (h0:∀ p,G p 0=0):(m.map λe=>G e.1 e.2).sum=((Z3 n mo).map λp=>G p (W p)).sum:=by
 obtain⟨h1,h2,h3⟩:=h;have e1:(m.map λe=>G e.1 e.2)=(m.map (·.1)).map λp=>G p (W p):=by
  rw[wM];exact x9 λe he=>by show G e.1 e.2=G e.1 (W e.1);rw[(h2 e he).1]
 have hp:((m.map (·.1))++(Z3 n mo).filter λp=>!(m.map (·.1)).contains p).Perm (Z3 n mo):=by
  refine (wq (List.nodup_append.2 ⟨h1,(K0 n mo).filter _,λa ha b hb e=>?_⟩) (K0 n mo)).2 λa=>?_
  .subst e;have:=(zY.1 hb).2;simp at this;obtain⟨x,hx⟩:=zI.1 ha;exact this x.2 (by rw[<-hx.2];exact hx.1)
  .rw[zQ,zY];constructor
   .rintro (h|h)
    .obtain⟨e,he,rfl⟩:=zI.1 h;exact(h2 e he).2.2
    .exact h.1
   .intro h;by_cases hc:a∈m.map (·.1)
    .exact .inl hc
    .exact .inr ⟨h,by simpa using hc⟩
 rw[e1,<-RU (hp.map λp=>G p (W p)),TX];have:(((Z3 n mo).filter λp=>!(m.map (·.1)).contains p).map λp=>G p (W p)).sum=0:=GM λp hp=>by
  have hc:=(zY.1 hp).2;have:W p=0:=by
   by_cases e:W p=0
   .exact e
   .obtain⟨x,hx,rfl⟩:=h3 p e;have:x.1∈m.map (·.1):=zI.2 ⟨x,hx,rfl⟩;simp[this] at hc
  rw[this,h0]
 rw[this];omega
def XA (m:List ((Int×Int)×Int)) (k:Int×Int):Int:=gq.aget (.pair (.i .i64) (.i .i64)) m k 0
def Nz (m:List ((Int×Int)×Int)) (k:Int×Int) (v:Int):List ((Int×Int)×Int):=PT (.pair (.i .i64) (.i .i64)) m k v
theorem Z0r {a b:Int×Int}:gq.keq (.pair (.i .i64) (.i .i64)) a b=true<->a=b:=by show ((a.1==b.1)&&(a.2==b.2))=true<->_;simp only[z7,zT,Prod.ext_iff]
theorem Kc (a:Int×Int) (b:Int) (m:List ((Int×Int)×Int)) (k:Int×Int):XA ((a,b)::m) k=if k=a then b else XA m k:=by
 show (if gq.keq (.pair (.i .i64) (.i .i64)) k a=true then b else gq.aget (.pair (.i .i64) (.i .i64)) m k 0)=_;by_cases h:k=a
 .rw[z8 (Z0r.2 h),z8 h]
 .rw[zd (λe=>h (Z0r.1 e)),zd h];rfl
theorem KH (a:Int×Int) (b:Int) (m:List ((Int×Int)×Int)) (k:Int×Int) (v:Int):Nz ((a,b)::m) k v=if k=a then (k,v)::m else (a,b)::Nz m k v:=by
 show (if gq.keq (.pair (.i .i64) (.i .i64)) k a=true then (k,v)::m else (a,b)::PT (.pair (.i .i64) (.i .i64)) m k v)=_;by_cases h:k=a
 .rw[z8 (Z0r.2 h),z8 h]
 .rw[zd (λe=>h (Z0r.1 e)),zd h];rfl
theorem FU {m:List ((Int×Int)×Int)}(hn:(m.map (·.1)).Nodup) {e:(Int×Int)×Int}(he:e∈m):XA m e.1=e.2:=by
 induction m with
 |nil=>cases he
 |cons x m ih =>
  obtain⟨a,b⟩:=x;rw[zE,xr] at hn;rw[Kc];rcases zo.1 he with rfl|he
  .rw[z8 rfl]
  .have:e.1≠a:=λh=>hn.1 (by rw[<-h];exact zI.2 ⟨e,he,rfl⟩);rw[zd this];exact ih hn.2 he
theorem Sv {k:Int×Int}:∀ {m:List ((Int×Int)×Int)},(∀ e∈m,e.1≠k)->XA m k=0
 |[],_=>rfl
 |(a,b)::m,h=>by rw[Kc,zd λe=>h (a,b) (zq ..) e.symm];exact Sv λe he=>h e (zi _ he)
theorem MapW.get {n mo:Nat}{m:List ((Int×Int)×Int)}{W:Int×Int->Int}(h:MapW n mo m W) (q:Int×Int):XA m q=W q:=by
 by_cases hz:W q=0
 .rw[hz];refine Sv λe he hq=>?_;have:=h.2.1 e he;rw[hq,hz] at this;omega
 .obtain⟨e,he,rfl⟩:=h.2.2 q hz;rw[FU h.1 he];exact(h.2.1 e he).1
theorem A6 (k:Int×Int) (v:Int):∀ (m:List ((Int×Int)×Int)),(m.map (·.1)).Nodup->(∀ e∈Nz m k v,e=(k,v)\/e∈m/\e.1≠k)/\(k,v)∈Nz m k v/\(∀ e∈m,e.1≠k->e∈Nz m k v)/\((Nz m k v).map (·.1)).Nodup
 |[],_=>⟨λe he=>.inl (zp.1 he),zp.2 rfl,λe he=>(by cases he),List.pairwise_singleton _ _⟩
 |(a,b)::m,hn=>by
  rw[zE,xr] at hn;obtain⟨h1,h2,h3,h4⟩:=A6 k v m hn.2;rw[KH];by_cases hk:k=a
  .subst hk;rw[z8 rfl];refine⟨λe he=>?_,zq ..,λe he aB=>?_,by rw[zE,xr];exact hn⟩
   .rcases zo.1 he with h|h
    .exact .inl h
    .exact .inr ⟨zi _ h,λe2=>hn.1 (zI.2 ⟨e,h,e2⟩)⟩
   .rcases zo.1 he with h|h
    .rw[h] at aB;exact(aB rfl).elim
    .exact zi _ h
  .rw[zd hk];refine⟨λe he=>?_,zi _ h2,λe he aB=>?_,?_⟩
   .rcases zo.1 he with h|h
    .subst h;exact .inr ⟨zq ..,λe=>hk e.symm⟩
    .rcases h1 e h with h|h
     .exact .inl h
     .exact .inr ⟨zi _ h.1,h.2⟩
   .rcases zo.1 he with h|h
    .rw[h];exact zq ..
    .exact zi _ (h3 e h aB)
   .rw[zE,xr];refine⟨λhm=>?_,h4⟩;obtain⟨e,he,j6⟩:=zI.1 hm;rcases h1 e he with h|h
    .rw[h] at j6;exact hk j6
    .exact hn.1 (zI.2 ⟨e,h.1,j6⟩)
theorem MapW.add {n mo:Nat}{m:List ((Int×Int)×Int)}{W:Int×Int->Int}(h:MapW n mo m W) (hW:∀ q,0<=W q) {k:Int×Int}{w:Int}(hw:0<w) (hk:k∈Z3 n mo):MapW n mo (Nz m k (XA m k+w)) (λq=>W q+if q=k then w else 0):=by
 obtain⟨p1,p2,p3,p4⟩:=A6 k (XA m k+w) m h.1;have hg:=h.get k;have wb:=hW k;refine⟨p4,λe he=>?_,λq hq=>?_⟩
 .rcases p1 e he with rfl|⟨h1,h2⟩
  .dsimp only;rw[z8 rfl];exact⟨by omega,by omega,hk⟩
  .dsimp only;rw[zd h2];have:=h.2.1 e h1;exact⟨by omega,this.2⟩
 .by_cases e:q=k
  .exact⟨_,p2,e.symm⟩
  .dsimp only at hq;rw[zd e] at hq;obtain⟨x,hx,rfl⟩:=h.2.2 q (by omega);exact⟨x,p3 x hx e,rfl⟩
theorem MapW.congr {n mo:Nat}{m:List ((Int×Int)×Int)}{W W':Int×Int->Int}(h:MapW n mo m W) (e:∀ q,W q=W' q):MapW n mo m W':=by have:W=W':=funext e;rw[<-this];exact h
theorem MapW.nil (n mo:Nat):MapW n mo [] λ_=>0:=⟨List.nodup_nil,(λe he=>by cases he),λq hq=>(hq rfl).elim⟩
theorem Yq {n mo:Int}{p:Int×Int}{w:Int}{q:Int×Int}{s:Int}(hw:0<=w):0<=N2 n mo p w q s/\N2 n mo p w q s<=w:=by unfold N2;split<;>omega
theorem Kr {n mo:Int}{wv:Int->Bool}{p:Int×Int}{w:Int}{q:Int×Int}(hw:0<=w):0<=BE n mo wv p w q:=by have h0:=(Yq (n:=n) (mo:=mo) (p:=p) (q:=q) (s:=0) hw).1;have h1:=(Yq (n:=n) (mo:=mo) (p:=p) (q:=q) (s:=1) hw).1;have h2:=(Yq (n:=n) (mo:=mo) (p:=p) (q:=q) (s:=2) hw).1;unfold BE;split<;>omega
theorem QW (n mo:Nat) (wv:Nat->Int->Bool):∀ k q,0<=wyK n mo wv k q
 |0,q=>by simp only[wyK];split<;>omega
 |k+1,q=>XU λp _=>Kr (QW n mo wv k p)
theorem H7 (n mo:Nat) (wv:Nat->Int->Bool) (hn:0<n):∀ k q,wyK n mo wv k q≠0->q∈Z3 n mo
 |0,q,h=>by
  simp only[wyK] at h;split at h
  .rename_i h2;rw[Zi];omega
  .exact(h rfl).elim
 |k+1,q,h=>by
  simp only[wyK] at h;by_cases hq:q∈Z3 n mo
  .exact hq
  .exfalso;refine h (GM λp hp=>?_);rw[Zi] at hp hq;have z:∀ s:Int,0<=s->N2 n mo p (wyK n mo wv k p) q s=0:=λs hs=>by
    unfold N2;rw[zd];rintro⟨h1,h2⟩;apply hq;have e1:=(Prod.ext_iff.1 h1).1;have e2:=(Prod.ext_iff.1 h1).2;unfold Nh at e1 e2;dsimp only at e1 e2;rw[Int.tmod_eq_emod_of_nonneg (by omega)] at e1;have b1:=Int.emod_nonneg (p.1+s) (show (n:Int)≠0 by omega);have b2:=Int.emod_lt_of_pos (p.1+s) (show (0:Int)<n by omega);split at e2<;>omega
   unfold BE;rw[z 0 (by omega),z 1 (by omega),z 2 (by omega)];split<;>rfl
theorem EJ {α:Type}{f:α->Int}{B:Int}(hB:0<=B):∀ {l:List α},l.Nodup->(∀ x∈l,0<=f x/\f x<=B)->(∀ x∈l,∀ y∈l,f x≠0->f y≠0->x=y)->(l.map f).sum<=B
 |[],_,_,_=>hB
 |x::l,hn,hb,h1=>by
  rw[xr] at hn;rw[zE,xx];by_cases hx:f x=0
  .have:=EJ hB hn.2 (λy hy=>hb y (zi _ hy)) λy hy z hz=>h1 y (zi _ hy) z (zi _ hz);omega
  .have hz:(l.map f).sum=0:=GM λy hy=>by
    by_cases e:f y=0
    .exact e
    .exact(hn.1 (by rw[h1 x (zq ..) y (zi _ hy) hx e];exact hy)).elim
   have:=hb x (zq ..);omega
theorem Q4t {n:Int}{p p':Int×Int}{s:Int}(hs:0<=s) (h1:0<=p.1/\p.1<n) (h2:0<=p'.1/\p'.1<n) (h:Nh n p s=Nh n p' s):p=p':=by
 have e1:=(Prod.ext_iff.1 h).1;have e2:=(Prod.ext_iff.1 h).2;unfold Nh at e1 e2;dsimp only at e1 e2;rw[Int.tmod_eq_emod_of_nonneg (by omega),Int.tmod_eq_emod_of_nonneg (by omega)] at e1;have h3:p.1=p'.1:=by
  have a1:=Int.emod_add_emod p.1 n s;have:=Int.emod_emod_of_dvd;have d:(p.1-p'.1) % n=0:=by
   have:(p.1+s-(p'.1+s)) % n=0:=Int.emod_eq_emod_iff_emod_sub_eq_zero.1 e1
   rwa [show p.1+s-(p'.1+s)=p.1-p'.1 by omega] at this
  obtain⟨c,hc⟩:=Int.dvd_of_emod_eq_zero d;have c1:c<1:=by
   by_cases h:1<=c
   .have:=Int.mul_le_mul_of_nonneg_left h (show 0<=n by omega);omega
   .omega
  have c2:-1<c:=by
   by_cases h:c<=-1
   .have:=Int.mul_le_mul_of_nonneg_left h (show 0<=n by omega);omega
   .omega
  have:c=0:=by omega
  rw[this] at hc;omega
 exact Prod.ext h3 (by omega)
theorem Aa {α:Type}{f g:α->Int}:∀ {l:List α},(∀ x∈l,f x<=g x)->(l.map f).sum<=(l.map g).sum
 |[],_=>Int.le_refl _
 |x::l,h=>by have h1:=h x (zq ..);have h2:=Aa (l:=l) λy hy=>h y (zi _ hy);rw[zE,zE,xx,xx];omega
theorem LH {α:Type}(f g:α->Int):∀ (l:List α),(l.map λx=>f x+g x).sum=(l.map f).sum+(l.map g).sum
 |[]=>rfl
 |x::l=>by have:=LH f g l;rw[zE,zE,zE,xx,xx,xx];omega
theorem IQ {n mo:Nat}{V:Int×Int->Int}{q:Int×Int}{s B:Int}(hs:0<=s) (hB:0<=B) (hV:∀ p,0<=V p) (hb:∀ p∈Z3 n mo,Nh n p s=q->V p<=B):((Z3 n mo).map λp=>N2 n mo p (V p) q s).sum<=B:=by
 refine EJ hB (K0 n mo) (λp hp=>?_) λp hp p' bA h1 h2=>?_
 .have:=Yq (n:=n) (mo:=mo) (p:=p) (q:=q) (s:=s) (hV p);refine⟨this.1,?_⟩;by_cases hq:Nh n p s=q
  .have:=hb p hp hq;omega
  .unfold N2;rw[zd λh=>hq h.1];exact hB
 .rw[Zi] at hp bA;have e1:Nh n p s=q:=by
   by_cases h:Nh n p s=q
   .exact h
   .unfold N2 at h1;rw[zd λh'=>h h'.1] at h1;exact(h1 rfl).elim
  have e2:Nh n p' s=q:=by
   by_cases h:Nh n p' s=q
   .exact h
   .unfold N2 at h2;rw[zd λh'=>h h'.1] at h2;exact(h2 rfl).elim
  exact Q4t hs hp.1 bA.1 (e1.trans e2.symm)
theorem SJ {n mo:Nat}(wv:Nat->Int->Bool) (hn:0<n):∀ (k:Nat) (q:Int×Int),0<=q.2->wyK n mo wv k q<=((2*k+1) ^ q.2.toNat:Nat)
 |0,q,hq=>by simp only[wyK];have:0<(2*0+1) ^ q.2.toNat:=Nat.pow_pos (by omega);split<;>omega
 |k+1,q,hq=>by
  have iu:=QW n mo wv k;have h0:wyK n mo wv (k+1) q<=((Z3 n mo).map λp=>(N2 n mo p (wyK n mo wv k p) q 0+N2 n mo p (wyK n mo wv k p) q 1)+N2 n mo p (wyK n mo wv k p) q 2).sum:=Aa λp _=>by have a0:=(Yq (n:=n) (mo:=mo) (p:=p) (q:=q) (s:=0) (iu p)).1;have a1:=(Yq (n:=n) (mo:=mo) (p:=p) (q:=q) (s:=1) (iu p)).1;have a2:=(Yq (n:=n) (mo:=mo) (p:=p) (q:=q) (s:=2) (iu p)).1;unfold BE;split<;>omega
  rw[LH,LH] at h0;obtain⟨f,hf⟩:∃ f:Nat,q.2=f:=⟨q.2.toNat,by omega⟩;have b1:((Z3 n mo).map λp=>N2 n mo p (wyK n mo wv k p) q 1).sum<=((2*k+1) ^ f:Nat):=IQ (by omega) (by omega) iu λp hp he=>by
   rw[Zi] at hp;have e2:=(Prod.ext_iff.1 he).2;unfold Nh at e2;dsimp only at e2;rw[z8 rfl] at e2;have:=SJ (n:=n) (mo:=mo) wv hn k p hp.2.1
   rwa [show p.2.toNat=f by omega] at this
  have bs:∀ s:Int,0<=s->s≠1->((Z3 n mo).map λp=>N2 n mo p (wyK n mo wv k p) q s).sum<=((if f=0 then 0 else (2*k+1) ^ (f-1):Nat):Int):=λs hs kz=>IQ hs (by omega) iu λp hp he=>by
   rw[Zi] at hp;have e2:=(Prod.ext_iff.1 he).2;unfold Nh at e2;dsimp only at e2;rw[zd kz] at e2;have:=SJ (n:=n) (mo:=mo) wv hn k p hp.2.1;rw[zd (by omega)]
   rwa [show p.2.toNat=f-1 by omega] at this
  have b0:=bs 0 (by omega) (by omega);have b2:=bs 2 (by omega) (by omega);rw[hf,zw];have key:(2*k+1) ^ f+2*(if f=0 then 0 else (2*k+1) ^ (f-1))<=(2*(k+1)+1) ^ f:=by
   cases f with
   |zero=>simp
   |succ g =>
    rw[zd (by omega),Nat.add_sub_cancel];have hp:(2*k+1) ^ g<=(2*(k+1)+1) ^ g:=Nat.pow_le_pow_left (by omega) g;have h1:(2*k+1) ^ (g+1)+2*(2*k+1) ^ g=(2*k+1) ^ g*(2*(k+1)+1):=by
     rw[Nat.pow_succ];generalize (2*k+1) ^ g=A;have:A*(2*(k+1)+1)=A*(2*k+1)+A*2:=by rw[<-wO];congr 1
     omega
    rw[h1,Nat.pow_succ];exact zt _ hp
  omega
theorem Cp {α:Type}{d:α}{m:List α}{F:α->Int}{dn:List Nat}(hn:dn.Nodup) (ah:∀ r∈dn,r<m.length) (hF:∀ x∈m,0<=F x):(dn.map λr=>F (m.getD r d)).sum<=(m.map F).sum/\((∀ r,r<m.length->r∈dn)->(dn.map λr=>F (m.getD r d)).sum=(m.map F).sum):=by
 have e:m.map F=(List.range m.length).map λr=>F (m.getD r d):=by
  refine List.ext_getElem (by simp) λi h1 h2=>?_;have hi:i<m.length:=by simpa using h1
  rw[xT,xT,List.getElem_range,Qh hi]
 have hp:(dn++(List.range m.length).filter λr=>!dn.contains r).Perm (List.range m.length):=by
  refine (wq (List.nodup_append.2 ⟨hn,(List.nodup_range (n:=m.length)).filter _,λa ha b hb e=>?_⟩) List.nodup_range).2 λa=>?_
  .subst e;have:=(zY.1 hb).2;simp[ha] at this
  .rw[zQ,zY,zF];constructor
   .rintro (h|h)
    .exact ah a h
    .exact h.1
   .intro h;by_cases hc:a∈dn
    .exact .inl hc
    .exact .inr ⟨h,by simpa using hc⟩
 rw[e,<-RU (hp.map λr=>F (m.getD r d)),TX];constructor
 .have:0<=(((List.range m.length).filter λr=>!dn.contains r).map λr=>F (m.getD r d)).sum:=XU λr hr=>by
   have hr:=zF.1 (zY.1 hr).1;rw[Qh hr];exact hF _ (zr hr)
  omega
 .intro h;have:(List.range m.length).filter (λr=>!dn.contains r)=[]:=List.filter_eq_nil_iff.2 λr hr=>by have:=h r (zF.1 hr);simp[this]
  rw[this];simp
def wvB (hk:Int) (cs:List UC) (cl:List Int) (k:Nat) (a:Int):Bool:=(cl.getD k 0==-1)||(cl.getD k 0==Ga hk (cs.getD a.toNat Dd))
theorem SZ (k:Int×Int) (a b:Int):∀ m:List ((Int×Int)×Int),Nz (Nz m k a) k b=Nz m k b
 |[]=>by show Nz [(k,a)] k b=[(k,b)];rw[KH,z8 rfl]
 |(x,v)::m=>by
  rw[KH,KH];by_cases h:k=x
  .rw[z8 h,z8 h,KH,z8 rfl]
  .rw[zd h,zd h,KH,zd h,SZ k a b m]
theorem L0 (k q:Int×Int) (v:Int):∀ m:List ((Int×Int)×Int),XA (Nz m k v) q=if q=k then v else XA m q
 |[]=>by show XA [(k,v)] q=_;rw[Kc]
 |(x,w)::m=>by
  rw[KH];by_cases h:k=x
  .subst h;rw[z8 rfl,Kc,Kc];split<;>rfl
  .rw[zd h,Kc,L0 k q v m,Kc];by_cases h2:q=x
   .subst h2;rw[z8 rfl,z8 rfl,zd (λe=>h e.symm)]
   .rw[zd h2,zd h2]
def AM (n mo:Int) (p:Int×Int) (w:Int) (m:List ((Int×Int)×Int)) (s:Int):List ((Int×Int)×Int):=if (Nh n p s).2<=mo then Nz m (Nh n p s) (XA m (Nh n p s)+w) else m
def Q6a (n mo:Int) (p:Int×Int) (w:Int) (m:List ((Int×Int)×Int)):List ((Int×Int)×Int):=AM n mo p w (AM n mo p w (AM n mo p w m 0) 1) 2
theorem Q06 (n mo:Int) (p:Int×Int) (w:Int) (m:List ((Int×Int)×Int)) (s:Int) (q:Int×Int):XA (AM n mo p w m s) q=XA m q+N2 n mo p w q s:=by
 unfold AM N2;by_cases h:(Nh n p s).2<=mo
 .rw[z8 h,L0];by_cases e:q=Nh n p s
  .rw[z8 e,z8 ⟨e.symm,by rw[e];exact h⟩,e]
  .rw[zd e,zd (λx=>e x.1.symm)];omega
 .rw[zd h,zd (λx=>h (by rw[x.1];exact x.2))];omega
theorem Fz {n mo:Nat}{m:List ((Int×Int)×Int)}{W:Int×Int->Int}(h:MapW n mo m W) (hW:∀ q,0<=W q) {p:Int×Int}{w s:Int}(hw:0<w) (hn:0<n) (hp:0<=p.1/\0<=p.2) (hs:0<=s):MapW n mo (AM n mo p w m s) (λq=>W q+N2 n mo p w q s):=by
 unfold AM;by_cases hc:(Nh n p s).2<=mo
 .rw[z8 hc];refine (h.add hW hw (k:=Nh n p s) ?_).congr λq=>?_
  .rw[Zi];have b1:=Int.emod_nonneg (p.1+s) (show (n:Int)≠0 by omega);have b2:=Int.emod_lt_of_pos (p.1+s) (show (0:Int)<n by omega);refine⟨?_,?_,hc⟩
   .unfold Nh;dsimp only;rw[Int.tmod_eq_emod_of_nonneg (by omega)];exact⟨b1,b2⟩
   .unfold Nh;dsimp only;split<;>omega
  .unfold N2;by_cases e:q=Nh n p s
   .rw[z8 e,z8 ⟨e.symm,by rw[e];exact hc⟩]
   .rw[zd e,zd (λx=>e x.1.symm)]
 .rw[zd hc];exact h.congr λq=>by
   unfold N2;rw[zd (λx=>hc (by rw[x.1];exact x.2))];omega
theorem Q7c {n mo:Nat}{m:List ((Int×Int)×Int)}{W:Int×Int->Int}(h:MapW n mo m W) (hW:∀ q,0<=W q) {p:Int×Int}{w:Int}(hw:0<w) (hn:0<n) (hp:0<=p.1/\0<=p.2):MapW n mo (Q6a n mo p w m) (λq=>W q+(N2 n mo p w q 0+N2 n mo p w q 1+N2 n mo p w q 2)):=by have z:=λq s=>(Yq (n:=n) (mo:=mo) (p:=p) (q:=q) (s:=s) (Int.le_of_lt hw)).1;have h1:=Fz h hW hw hn hp (s:=0) (by omega);have h2:=Fz h1 (λq=>by have:=hW q;have:=z q 0;omega) hw hn hp (s:=1) (by omega);have h3:=Fz h2 (λq=>by have:=hW q;have:=z q 0;have:=z q 1;omega) hw hn hp (s:=2) (by omega);exact h3.congr λq=>by omega
def WL:AL (Int×Int×(List (Int×Int×Bool))×Int):=(.cons (.k (.i .i64)) (.one (.ptr (.cons (.k (.i .i64)) (.cons (.k (.list (.pair (.i .i64) (.pair (.i .i64) .bo)))) (.one (.k (.i .i64))))))))
def Up (d:Int×Int×(List (Int×Int×Bool))×Int):Prop:=1<=d.2.2.2/\d.2.2.2<=24
def W0 (d:Int×Int×(List (Int×Int×Bool))×Int):SV:=.val .bo (decide (d.1≠-1)&&!inI d.1 0 (2 ^ d.2.2.2.toNat-1))
def Wb (d:Int×Int×(List (Int×Int×Bool))×Int):List OB:=[]
def ZN:CSp:=V7 WL Up W0 Wb
def Zw (r:Int) (hk:Int) (cs:List (Int×Int×Bool)) (f:Int):Prop :=
 ((r != (-1:Int))=true->True)/\((r != (-1:Int))=true->1<=f/\f<=24/\[r].length<=1000000)/\(((r != (-1:Int))&&(!(!([r].any λn=>!inI n 0 (2 ^ f.toNat-1)))))=(decide (r≠-1)&&!inI r 0 (2 ^ f.toNat-1))/\(True))
def Wx:Cx:=⟨[(3,(.i .i64))],[(102,ZI)],14,[],0,[],[],[],[],false,[],[],[],[]⟩
def N5 (r:Int) (hk:Int) (cs:List (Int×Int×Bool)) (f:Int):List (Nat×LoopAnn):=[]
theorem UN (d:Int×Int×(List (Int×Int×Bool))×Int):gwp (Wx) (N5 d.1 d.2.1 d.2.2.1 d.2.2.2) Z0e 0 (Vv [.tmp 3] (W0 d) (Wb d)) (Qw 14 (AL.can WL d))=Zw d.1 d.2.1 d.2.2.1 d.2.2.2:=by kernel_rfl
abbrev N8:Prop:=OkC Tryz.prog 112 ZN
theorem N6 (h:∀ (r:Int) (hk:Int) (cs:List (Int×Int×Bool)) (f:Int),(1<=f/\f<=24)->Zw r hk cs f):OkC Tryz.prog 112 ZN :=
 Z4 I4 mixed (C:=Wx) (V:=λ(d:Int×Int×(List (Int×Int×Bool))×Int)=>Zw d.1 d.2.1 d.2.2.1 d.2.2.2) ⟨(.cons WG .nil),XsOk.nil,ItsOk.nil,YlOk.nil,IysOk.nil,XfOk.nil⟩ (UN) λd hp=>h d.1 d.2.1 d.2.2.1 d.2.2.2 hp
theorem WM:N8:=N6 λr hk cs f h=>by
 unfold Zw;(try delta lI gD sT I64 NF pj8 pj4);refine⟨λ_=>trivial,λ_=>⟨h.1,h.2,by simp⟩,?_,trivial⟩;simp only[List.any_cons,List.any_nil,wC,Bool.not_not];congr 1;by_cases e:r=-1
 .subst e;rfl
 .simp[e]
def MH:AL (Int):=(.one (.k (.i .i64)))
def HY (d:Int):Prop:=True
def M1 (d:Int):SV:=.val (.i .i64) (if d=1 then 0 else 1)
def M0 (d:Int):List OB:=[]
def Wg:CSp:=V7 MH HY M1 M0
def Y1 (s:Int):Prop :=
 ((s==(1:Int))=true ->
  ((0:Int)=(if s=1 then 0 else 1)/\(True))) /\
 ((s==(1:Int))=false ->
  ((1:Int)=(if s=1 then 0 else 1)/\(True)))
def MM:Cx:=⟨[],[],5,[],0,[],[],[],[],false,[],[],[],[]⟩
def PO (s:Int):List (Nat×LoopAnn):=[]
theorem T6 (d:Int):gwp (MM) (PO d) c77 0 (Vv [.tmp 2] (M1 d) (M0 d)) (Qw 5 (AL.can MH d))=Y1 d:=by kernel_rfl
abbrev P_:Prop:=OkC Tryz.prog 77 Wg
theorem PW (h:∀ (s:Int),(True)->Y1 s):OkC Tryz.prog 77 Wg :=
 Z4 Q42 mixed (C:=MM) (V:=λ(d:Int)=>Y1 d) ⟨.nil,XsOk.nil,ItsOk.nil,YlOk.nil,IysOk.nil,XfOk.nil⟩ (T6) λd hp=>h d hp
theorem Vh:P_:=PW λs _=>by
 unfold Y1;(try delta lI gD sT I64 NF pj8 pj4);refine⟨λc=>⟨?_,trivial⟩,λc=>⟨?_,trivial⟩⟩
 .rw[z8 (eq_of_beq c)]
 .rw[zd (λe=>by rw[e] at c;cases c)]
def XY:AL ((Int×(List (Int×Int×Bool))×Int×List Int)×Int×Int):=(.cons (.agg (.cons (.k (.i .i64)) (.cons (.k (.list (.pair (.i .i64) (.pair (.i .i64) .bo)))) (.cons (.k (.i .i64)) (.one (.k (.list (.i .i64)))))))) (.cons (.k (.i .i64)) (.one (.k (.i .i64)))))
def Vg (d:(Int×(List (Int×Int×Bool))×Int×List Int)×Int×Int):Prop:=1<=d.1.2.2.1/\d.1.2.2.1<=24/\0<=d.2.1/\d.2.1<d.1.2.2.2.length/\0<=d.2.2/\d.2.2<d.1.2.1.length/\∀ c∈d.1.2.1,Zk d.1.2.2.1 c=true
def Xk (d:(Int×(List (Int×Int×Bool))×Int×List Int)×Int×Int):SV:=.val .bo (wvB d.1.2.2.1 d.1.2.1 d.1.2.2.2 d.2.1.toNat d.2.2)
def Xo (d:(Int×(List (Int×Int×Bool))×Int×List Int)×Int×Int):List OB:=[]
def Zb:CSp:=V7 XY Vg Xk Xo
def Z7 (hk:Int) (cs:List (Int×Int×Bool)) (f:Int) (cl:List Int) (pk:Int) (at_:Int):Prop :=
 (0<=pk)/\(pk<(List.length cl))/\(((gD cl pk 0)==(-1:Int))=false->0<=pk)/\(((gD cl pk 0)==(-1:Int))=false->pk<(List.length cl))/\(((gD cl pk 0)==(-1:Int))=false->1<=f/\f<=24/\0<=at_/\at_<cs.length/\∀ c∈cs,Zk f c=true)/\((((gD cl pk 0)==(-1:Int))||((gD cl pk 0)==(Ga f (cs.getD at_.toNat Dd))))=(wvB f cs cl pk.toNat at_)/\(True))
def XM:Cx:=⟨[],[(104,Wn)],25,[],0,[],[],[],[],false,[],[],[],[]⟩
def VH (hk:Int) (cs:List (Int×Int×Bool)) (f:Int) (cl:List Int) (pk:Int) (at_:Int):List (Nat×LoopAnn):=[]
theorem Vq (d:(Int×(List (Int×Int×Bool))×Int×List Int)×Int×Int):gwp (XM) (VH d.1.1 d.1.2.1 d.1.2.2.1 d.1.2.2.2 d.2.1 d.2.2) Z0b 0 (Vv [.tmp 6] (Xk d) (Xo d)) (Qw 25 (AL.can XY d))=Z7 d.1.1 d.1.2.1 d.1.2.2.1 d.1.2.2.2 d.2.1 d.2.2:=by kernel_rfl
abbrev Vr:Prop:=OkC Tryz.prog 116 Zb
theorem VJ (h:∀ (hk:Int) (cs:List (Int×Int×Bool)) (f:Int) (cl:List Int) (pk:Int) (at_:Int),(1<=f/\f<=24/\0<=pk/\pk<cl.length/\0<=at_/\at_<cs.length/\∀ c∈cs,Zk f c=true)->Z7 hk cs f cl pk at_):OkC Tryz.prog 116 Zb :=
 Z4 FM mixed (C:=XM) (V:=λ(d:(Int×(List (Int×Int×Bool))×Int×List Int)×Int×Int)=>Z7 d.1.1 d.1.2.1 d.1.2.2.1 d.1.2.2.2 d.2.1 d.2.2) ⟨(.cons G4 .nil),XsOk.nil,ItsOk.nil,YlOk.nil,IysOk.nil,XfOk.nil⟩ (Vq) λd hp=>h d.1.1 d.1.2.1 d.1.2.2.1 d.1.2.2.2 d.2.1 d.2.2 hp
theorem XI:Vr:=VJ λhk cs f cl pk at_ h=>by obtain⟨h1,h2,h3,h4,h5,h6,h7⟩:=h;unfold Z7;(try delta lI gD sT I64 NF pj8 pj4);exact⟨h3,h4,λ_=>h3,λ_=>h4,λ_=>⟨h1,h2,h5,h6,h7⟩,(by and_intros<;>first|rfl|trivial|simp)⟩
def W5:AL ((Int×(List (Int×Int×Bool))×Int×List Int)×(Int×Int)×Int×Int):=(.cons (.agg (.cons (.k (.i .i64)) (.cons (.k (.list (.pair (.i .i64) (.pair (.i .i64) .bo)))) (.cons (.k (.i .i64)) (.one (.k (.list (.i .i64)))))))) (.cons (.agg (.cons (.k (.i .i64)) (.one (.k (.i .i64))))) (.cons (.k (.i .i64)) (.one (.k (.i .i64))))))
def Uz (m:List ((Int×Int)×Int)) (a:(Int×(List (Int×Int×Bool))×Int×List Int)×(Int×Int)×Int×Int):Prop:=0<=a.2.1.1/\a.2.1.1<a.1.2.1.length/\a.1.2.1.length<=60/\0<=a.2.1.2/\a.2.1.2<=6/\0<=a.2.2.2/\a.2.2.2<=6/\0<=a.2.2.1/\a.2.2.1<=4000000000000000/\∀ q,0<=XA m q/\XA m q<=4000000000000000
def W6 (m:List ((Int×Int)×Int)) (a:(Int×(List (Int×Int×Bool))×Int×List Int)×(Int×Int)×Int×Int):SV:=.tup []
def XR (m:List ((Int×Int)×Int)) (a:(Int×(List (Int×Int×Bool))×Int×List Int)×(Int×Int)×Int×Int) (m2:List ((Int×Int)×Int)):Prop:=m2=Q6a a.1.2.1.length a.2.2.2 (a.2.1.1,a.2.1.2) a.2.2.1 m
def JW:XSp:=Q0n Nj 1 (.pair (.i .i64) (.i .i64)) (.i .i64) (Z2w W5 Uz W6 XR)
def Zv (m:List ((Int×Int)×Int)) (hk:Int) (cs:List (Int×Int×Bool)) (f:Int) (cl:List Int) (sa:Int) (sf:Int) (wy:Int) (mo:Int):Prop:=∀ vals:List Value,
 ∃ (e3:Unit) (d30:(List ((Int×Int)×Int))×Int),((True/\wy=wy/\mo=mo/\True/\True/\(0:Int)=d30.2/\True)/\((m=d30.1)/\(hk=hk/\cs=cs/\f=f/\cl=cl/\(([]:List SV)=[]))/\(sa=sa/\sf=sf/\(([]:List SV)=[]))/\(vals=vals/\(True/\(([]:List SV)=[])))/\True)) /\
 LoopP (λ(d3:(List ((Int×Int)×Int))×Int) (q3:((List ((Int×Int)×Int))×Int)->Prop) =>
  ((decide (d3.2<(3:Int)))=true ->
   (cs≠[]/\cs.length<=1000/\-1000000<=sa/\sa<=1000000/\-1000000<=d3.2/\d3.2<=1000000)/\(True)/\(I64 (sf+(if d3.2=1 then 0 else 1)))/\((True/\wy=wy/\mo=mo/\True/\True/\True/\d3.2=d3.2/\((Int.tmod (sa+d3.2) cs.length)=(Int.tmod (sa+d3.2) cs.length)/\(sf+(if d3.2=1 then 0 else 1))=(sf+(if d3.2=1 then 0 else 1))/\(([]:List SV)=[]))/\True)/\((d3.1=d3.1)/\(hk=hk/\cs=cs/\f=f/\cl=cl/\(([]:List SV)=[]))/\(sa=sa/\sf=sf/\(([]:List SV)=[]))/\((0:Int)=(0:Int)/\(0:Int)=(0:Int)/\(([]:List SV)=[]))/\(vals=vals/\(True/\(([]:List SV)=[])))/\True))/\((cs≠[]/\cs.length<=1000/\-1000000<=sa/\sa<=1000000/\-1000000<=d3.2/\d3.2<=1000000)/\(True)/\(I64 (sf+(if d3.2=1 then 0 else 1)))/\((True/\wy=wy/\mo=mo/\True/\True/\True/\d3.2=d3.2/\((Int.tmod (sa+d3.2) cs.length)=(Int.tmod (sa+d3.2) cs.length)/\(sf+(if d3.2=1 then 0 else 1))=(sf+(if d3.2=1 then 0 else 1))/\(([]:List SV)=[]))/\True)/\((d3.1=d3.1)/\(hk=hk/\cs=cs/\f=f/\cl=cl/\(([]:List SV)=[]))/\(sa=sa/\sf=sf/\(([]:List SV)=[]))/\((0:Int)=(0:Int)/\(0:Int)=(0:Int)/\(([]:List SV)=[]))/\(vals=vals/\(True/\(([]:List SV)=[])))/\True)))/\((cs≠[]/\cs.length<=1000/\-1000000<=sa/\sa<=1000000/\-1000000<=d3.2/\d3.2<=1000000)/\(True)/\(I64 (sf+(if d3.2=1 then 0 else 1)))/\((True/\wy=wy/\mo=mo/\True/\True/\True/\d3.2=d3.2/\((Int.tmod (sa+d3.2) cs.length)=(Int.tmod (sa+d3.2) cs.length)/\(sf+(if d3.2=1 then 0 else 1))=(sf+(if d3.2=1 then 0 else 1))/\(([]:List SV)=[]))/\True)/\((d3.1=d3.1)/\(hk=hk/\cs=cs/\f=f/\cl=cl/\(([]:List SV)=[]))/\(sa=sa/\sf=sf/\(([]:List SV)=[]))/\((0:Int)=(0:Int)/\(0:Int)=(0:Int)/\(([]:List SV)=[]))/\(vals=vals/\(True/\(([]:List SV)=[])))/\True)))/\((decide ((sf+(if d3.2=1 then 0 else 1))<=mo))=true ->
    (I64 ((gq.aget (.pair (.i .i64) (.i .i64)) d3.1 ((Int.tmod (sa+d3.2) cs.length),(sf+(if d3.2=1 then 0 else 1))) 0)+wy))/\∀ n4:Int,
     n4=n4 /\
     (I64 (d3.2+(1:Int)))/\(∃ d5:(List ((Int×Int)×Int))×Int,((True/\wy=wy/\mo=mo/\True/\True/\(d3.2+(1:Int))=d5.2/\True)/\(((PT (.pair (.i .i64) (.i .i64)) (PT (.pair (.i .i64) (.i .i64)) d3.1 ((Int.tmod (sa+d3.2) cs.length),(sf+(if d3.2=1 then 0 else 1))) (gq.aget (.pair (.i .i64) (.i .i64)) d3.1 ((Int.tmod (sa+d3.2) cs.length),(sf+(if d3.2=1 then 0 else 1))) 0)) ((Int.tmod (sa+d3.2) cs.length),(sf+(if d3.2=1 then 0 else 1))) ((gq.aget (.pair (.i .i64) (.i .i64)) d3.1 ((Int.tmod (sa+d3.2) cs.length),(sf+(if d3.2=1 then 0 else 1))) 0)+wy))=d5.1)/\(hk=hk/\cs=cs/\f=f/\cl=cl/\(([]:List SV)=[]))/\(sa=sa/\sf=sf/\(([]:List SV)=[]))/\(vals=vals/\(True/\(([]:List SV)=[])))/\True))/\q3 d5)) /\
   ((decide ((sf+(if d3.2=1 then 0 else 1))<=mo))=false ->
    (I64 (d3.2+(1:Int)))/\(∃ d6:(List ((Int×Int)×Int))×Int,((True/\wy=wy/\mo=mo/\True/\True/\(d3.2+(1:Int))=d6.2/\True)/\((d3.1=d6.1)/\(hk=hk/\cs=cs/\f=f/\cl=cl/\(([]:List SV)=[]))/\(sa=sa/\sf=sf/\(([]:List SV)=[]))/\(vals=vals/\(True/\(([]:List SV)=[])))/\True))/\q3 d6))) /\
  ((decide (d3.2<(3:Int)))=false ->
   (vals=vals/\(True/\(([]:List SV)=[]))/\((([]:List SV)=[]))/\(d3.1=Q6a cs.length mo (sa,sf) wy m)))) d30
def Ww:Cx:=⟨[],[(78,ZK),(77,Wg)],39,[],0,[],[],[],[1,3,4,5,7,11,12,26],false,[],[],[],[]⟩
def Wz (m:List ((Int×Int)×Int)) (hk:Int) (cs:List (Int×Int×Bool)) (f:Int) (cl:List Int) (sa:Int) (sf:Int) (wy:Int) (mo:Int) (vals:List Value):List (Nat×LoopAnn):=[(0,⟨Unit,(List ((Int×Int)×Int))×Int,[1,3,4,5,7,12],λe x=>[.map 0,.val (.i .i64) wy,.val (.i .i64) mo,.box 5 0,.box 7 0,.val (.i .i64) x.2],λe x=>[(0,.slot 1,.map (.pair (.i .i64) (.i .i64)) (.i .i64) x.1),(5,.slot 5,.cells [.val (.i .i64) hk,.val (.list (.pair (.i .i64) (.pair (.i .i64) .bo))) cs,.val (.i .i64) f,.val (.list (.i .i64)) cl] (some 134)),(7,.slot 7,.cells [.val (.i .i64) sa,.val (.i .i64) sf] (some 145)),(4000000,.key 4000000,.stk [.map 0] vals)]⟩)]
theorem UM (m:List ((Int×Int)×Int)) (a:(Int×(List (Int×Int×Bool))×Int×List Int)×(Int×Int)×Int×Int):(∀ vals,gwp Ww (Wz m a.1.1 a.1.2.1 a.1.2.2.1 a.1.2.2.2 a.2.1.1 a.2.1.2 a.2.2.1 a.2.2.2 vals) Q9z 0 (Q5y vals [] (W6 m a) (.pair (.i .i64) (.i .i64)) (.i .i64) (XR m a)) (Dg 39 1 (.pair (.i .i64) (.i .i64)) (.i .i64) m vals (AL.can W5 a)))=Zv m a.1.1 a.1.2.1 a.1.2.2.1 a.1.2.2.2 a.2.1.1 a.2.1.2 a.2.2.1 a.2.2.2:=by kernel_rfl
abbrev N1:Prop:=XOk Tryz.prog 145 JW
theorem N7 (h:∀ (m:List ((Int×Int)×Int)) (hk:Int) (cs:List (Int×Int×Bool)) (f:Int) (cl:List Int) (sa:Int) (sf:Int) (wy:Int) (mo:Int),(0<=sa/\sa<cs.length/\cs.length<=60/\0<=sf/\sf<=6/\0<=mo/\mo<=6/\0<=wy/\wy<=4000000000000000/\∀ q,0<=XA m q/\XA m q<=4000000000000000)->Zv m hk cs f cl sa sf wy mo):XOk Tryz.prog 145 JW :=
 O0 FN mixed Ku rfl (C:=Ww) ⟨(.cons XB (.cons Vh .nil)),XsOk.nil,ItsOk.nil,YlOk.nil,IysOk.nil,XfOk.nil⟩ (L:=λm (a:(Int×(List (Int×Int×Bool))×Int×List Int)×(Int×Int)×Int×Int) vals=>Wz m a.1.1 a.1.2.1 a.1.2.2.1 a.1.2.2.2 a.2.1.1 a.2.1.2 a.2.2.1 a.2.2.2 vals) (V:=λm (a:(Int×(List (Int×Int×Bool))×Int×List Int)×(Int×Int)×Int×Int)=>Zv m a.1.1 a.1.2.1 a.1.2.2.1 a.1.2.2.2 a.2.1.1 a.2.1.2 a.2.2.1 a.2.2.2) UM λm a hp=>h m a.1.1 a.1.2.1 a.1.2.2.1 a.1.2.2.2 a.2.1.1 a.2.1.2 a.2.2.1 a.2.2.2 hp
theorem Ut:N1:=N7 λm hk cs f cl sa sf wy mo h=>by
 obtain⟨h1,h2,h3,h4,h5,h6,h7,h8,h9,bS⟩:=h;unfold Zv;(try delta lI gD sT I64 NF pj8 pj4);intro vals;have aB:cs≠[]:=λe=>by rw[e] at h2;simp at h2;omega
 refine⟨(),(m,0),(by and_intros<;>first|rfl|trivial),?_⟩
 let P:Nat->List ((Int×Int)×Int):=λk=>match k with
  |0=>m
  |1=>AM cs.length mo (sa,sf) wy m 0
  |2=>AM cs.length mo (sa,sf) wy (AM cs.length mo (sa,sf) wy m 0) 1
  |_=>Q6a cs.length mo (sa,sf) wy m
 have hP:∀ k:Nat,k<3->P (k+1)=AM cs.length mo (sa,sf) wy (P k) k:=λk hk=>by
  match k,hk with
  |0,_=>rfl
  |1,_=>rfl
  |2,_=>rfl
 have hb:∀ k:Nat,k<=3->∀ q,0<=XA (P k) q/\XA (P k) q<=4000000000000000+k*4000000000000000:=λk=>by
  induction k with
  |zero=>intro _ q;have:=bS q;exact⟨this.1,by show XA m q<=_;omega⟩
  |succ k ih =>intro hk q;rw[hP k (by omega),Q06];have a1:=ih (by omega) q;have a2:=Yq (n:=cs.length) (mo:=mo) (p:=(sa,sf)) (q:=q) (s:=(k:Int)) h8;omega
 refine LoopP.count2 3 (λk d=>d=P k) rfl ?_;intro k d nY hd q hq;subst hd;dsimp only;refine⟨λg=>?_,λg=>?_⟩
 .have g:k<3:=by have:=xh g;omega
  have cS:=λx'=>hq x' g;have hs:I64 (sf+(if (k:Int)=1 then 0 else 1)):=by (try delta I64);simp only[Qm];split<;>omega
  have mL:cs≠[]/\cs.length<=1000/\-1000000<=sa/\sa<=1000000/\-1000000<=(k:Int)/\(k:Int)<=1000000:=⟨aB,by omega,by omega,by omega,by omega,by omega⟩;refine⟨mL,trivial,hs,by and_intros<;>first|rfl|trivial,⟨mL,trivial,hs,by and_intros<;>first|rfl|trivial⟩,⟨mL,trivial,hs,by and_intros<;>first|rfl|trivial⟩,λc=>?_,λc=>?_⟩
  .have c:=xh c;have vq:=hb k (by omega) (Nh cs.length (sa,sf) k);have e1:gq.aget (.pair (.i .i64) (.i .i64)) (P k) ((Int.tmod (sa+(k:Int)) cs.length),(sf+(if (k:Int)=1 then 0 else 1))) (0:Int)=XA (P k) (Nh cs.length (sa,sf) k):=rfl;refine⟨?_,λn4=>⟨rfl,?_,?_⟩⟩
   .rw[e1];simp only[Qm];omega
   .simp only[Qm];omega
   .refine⟨(P (k+1),(k:Int)+1),?_,cS _ rfl⟩;have e2:P (k+1)=Nz (Nz (P k) (Nh cs.length (sa,sf) k) (XA (P k) (Nh cs.length (sa,sf) k))) (Nh cs.length (sa,sf) k) (XA (P k) (Nh cs.length (sa,sf) k)+wy):=by
     rw[SZ,hP k g];unfold AM;rw[z8 (show (Nh cs.length (sa,sf) k).2<=mo from c)]
    refine⟨by and_intros<;>first|rfl|trivial,?_⟩;refine⟨e2.symm,?_⟩;and_intros<;>first|rfl|trivial
  .have c:=xD c;refine⟨by simp only[Qm];omega,(P (k+1),(k:Int)+1),⟨by and_intros<;>first|rfl|trivial,?_⟩,cS _ rfl⟩;refine⟨?_,by and_intros<;>first|rfl|trivial⟩;show P k=P (k+1);rw[hP k g];unfold AM;rw[zd (show ¬ (Nh cs.length (sa,sf) k).2<=mo from c)]
 .have g:k=3:=by have:=xD g;omega
  subst g;and_intros<;>first|rfl|trivial
def Np {α:Type}(l:List α) (n:Nat):List α:=(List.replicate n l).flatten
theorem GN {α:Type}(l:List α) (a b:Nat):Np l (a+b)=Np l a++Np l b:=by simp only[Np];rw[<-List.replicate_append_replicate,List.flatten_append]
theorem K8 {α:Type}(l:List α) (n:Nat):(Np l n).length=l.length*n:=by simp[Np,List.length_flatten,w5]
theorem OT {α:Type}(x:α) (n:Nat):Np [x] n=List.replicate n x:=by
 induction n with
 |zero=>rfl
 |succ n ih=>rw[GN,ih,List.replicate_succ'];rfl
theorem F4 {α:Type}{l:List α}{n j c:Nat}(hj:j<=n) (hc:l.length*j+c<=l.length*n):(Np l n).take (l.length*j+c)=(Np l n).take (l.length*j)++(Np l n).take c:=by
 obtain⟨k,rfl⟩:=Nat.exists_eq_add_of_le hj;rw[wO] at hc;have e:Np l (j+k)=Np l k++Np l j:=by rw[xR,GN]
 rw[List.take_add];congr 1;rw[GN l j k,List.drop_left' (K8 l j),<-GN,e,List.take_append_of_le_length (by rw[K8];omega)]
def Q6w {α:Type}(l:List α) (n:Nat) (xs:List α) (m:Nat):Prop:=xs.length=l.length*n/\m<=l.length*n/\xs.take m=(Np l n).take m/\(m=l.length*n\/(0<m/\∃ j,m=l.length*j))
theorem EU {α:Type}(l:List α) (n:Nat) (d:α):Q6w l n (List.take (l.length*n) l++List.drop l.length (List.replicate (l.length*n) d)) (Nat.min l.length (l.length*n)):=by
 rcases Nat.eq_zero_or_pos n with rfl|hn
 .exact⟨by simp,by simp,by simp,.inl (by simp)⟩
 have h1:l.length<=l.length*n:=Nat.le_mul_of_pos_right _ hn;have e:Nat.min l.length (l.length*n)=l.length:=xL h1;rw[e];refine⟨by simp;omega,h1,?_,?_⟩
 .obtain⟨k,rfl⟩:=Nat.exists_eq_add_of_le hn;rw[zy h1,List.take_left,Nat.succ_eq_add_one,GN,List.take_append_of_le_length (by rw[K8];omega)];simp[Np]
 .rcases Nat.eq_zero_or_pos l.length with h0|h0
  .left;rw[h0];simp
  .exact .inr ⟨h0,1,by omega⟩
theorem Fy {α:Type}{l:List α}{n:Nat}{xs:List α}{m:Nat}(h:Q6w l n xs m) (hm:m<xs.length) :
  Q6w l n (List.take m xs++(List.take (xs.length-m) (List.take m xs)++List.drop (m+Nat.min (List.take m xs).length (xs.length-m)) xs)) (m+Nat.min (List.take m xs).length (xs.length-m))/\0<Nat.min (List.take m xs).length (xs.length-m):=by
 obtain⟨h1,h2,h3,h4⟩:=h;have hl:(List.take m xs).length=m:=by rw[xE];omega
 rw[hl];rcases h4 with h4|⟨h4,j,h5⟩
 .omega
 have hj:j<=n:=Nat.le_of_mul_le_mul_left (by omega:l.length*j<=l.length*n) (Nat.pos_of_ne_zero λh=>by rw[h] at h1;omega);have hc:Nat.min m (xs.length-m)=min m (xs.length-m):=rfl;generalize dE:Nat.min m (xs.length-m)=c;rw[hc] at dE;have c1:c<=m:=by omega
 have c2:m+c<=xs.length:=by omega
 have c3:0<c:=by omega
 refine⟨⟨?_,by omega,?_,?_⟩,c3⟩
 .simp only[zJ,xE,x_];omega
 .have e1:List.take (xs.length-m) (List.take m xs)=List.take c ((Np l n).take m):=by
   rw[h3,List.take_take,List.take_take];congr 1;omega
  rw[e1,h3,<-zZ,List.take_left']
  .rw[h5,F4 hj (by omega),List.take_take,xL (by omega)]
  .simp only[zJ,xE,K8];omega
 .rcases zn (xs.length-m) m with h6|h6
  .left;omega
  .right;exact⟨by omega,j+j,by rw[wO];omega⟩
theorem OW {α:Type}{l:List α}{n:Nat}{xs:List α}{m:Nat}(h:Q6w l n xs m) (hm:¬ m<xs.length):xs=Np l n:=by
 obtain⟨h1,h2,h3,_⟩:=h;have:m=l.length*n:=by omega
 rw[zy (by omega),zy (by rw[K8];omega)] at h3;exact h3
def Za (l:List Int):Int:=l.tail.foldl DB (l.getD 0 0)
def nxC (n:Nat) (at_ s:Int):Int:=Int.tmod (at_+s) n
def ftC (s:Int):Int:=if s=1 then 0 else 1
def pvC (n:Nat) (w:Bool) (now:List Int) (a:Nat):Nat->Int
 |0=>1048576
 |t+1=>if w=true then DB (pvC n w now a t) (ftC t+now.getD (nxC n a t).toNat 0) else pvC n w now a t
def OX (n:Nat) (wv:Int->Bool) (now:List Int):List Int:=(List.range n).map λ(a:Nat)=>pvC n (wv (a:Int)) now a 3
def QO (n:Nat) (wv:Nat->Int->Bool) (m:Nat):Nat->List Int
 |0=>List.replicate n 0
 |k+1=>OX n (wv (m-1-k)) (QO n wv m k)
def Qf (hk:Int) (cs:List UC) (cl:List Int):List (List Int):=((List.range (cl.length+1)).map λk=>QO cs.length (λk=>wvB hk cs cl k) cl.length k).reverse
def SL (n:Nat) (now nxt:List Int) (at_:Int):Int :=
 if ftC 0+nxt.getD (nxC n at_ 0).toNat 0=now.getD at_.toNat 0 then 0 else if ftC 1+nxt.getD (nxC n at_ 1).toNat 0=now.getD at_.toNat 0 then 1 else 2
def YY (n:Nat) (wv:Nat->Int->Bool) (m:Nat):Nat->Int->List Int
 |0,_=>[]
 |k+1,at_=>SL n (QO n wv m (k+1)) (QO n wv m k) at_::YY n wv m k (nxC n at_ (SL n (QO n wv m (k+1)) (QO n wv m k) at_))
def BK (hk:Int) (cs:List UC) (cl:List Int):Int:=Za (QO cs.length (λk=>wvB hk cs cl k) cl.length cl.length)
def T4 (hk:Int) (cs:List UC) (cl:List Int):Int:=Gt (QO cs.length (λk=>wvB hk cs cl k) cl.length cl.length) (λy=>decide (y=BK hk cs cl))
def Js (hk:Int) (cs:List UC) (cl:List Int):Int:=if BK hk cs cl>=1048576 then 7 else 0
def Nn (hk:Int) (cs:List UC) (cl:List Int):Int:=if BK hk cs cl>=1048576 then 0 else BK hk cs cl
def Mx (hk:Int) (cs:List UC) (cl:List Int):Int:=if BK hk cs cl>=1048576 then 0 else T4 hk cs cl
def Dz (hk:Int) (cs:List UC) (cl:List Int):List Int:=if BK hk cs cl>=1048576 then [] else YY cs.length (λk=>wvB hk cs cl k) cl.length cl.length (T4 hk cs cl)
theorem Um (a b:Int):DB a b<=a/\DB a b<=b/\(DB a b=a\/DB a b=b):=by unfold DB;split<;>omega
theorem S6 (s:Int):0<=ftC s/\ftC s<=1:=by unfold ftC;split<;>omega
theorem Q3r (n:Nat) (w:Bool) (now:List Int) (a:Nat):∀ t,pvC n w now a t<=1048576
 |0=>Int.le_refl _
 |t+1=>by
  have:=Q3r n w now a t;unfold pvC;split
  .have:=(Um (pvC n w now a t) (ftC t+now.getD (nxC n a t).toNat 0)).1;omega
  .exact this
theorem Q2j {n:Nat}{w:Bool}{now:List Int}{a:Nat}(h:∀ i,0<=now.getD i 0):∀ t,0<=pvC n w now a t
 |0=>by show (0:Int)<=1048576;decide
 |t+1=>by
  have h1:=Q2j (n:=n) (w:=w) (a:=a) h t;unfold pvC;split
  .have h2:=(Um (pvC n w now a t) (ftC t+now.getD (nxC n a t).toNat 0)).2.2;have h3:=h (nxC n a t).toNat;have:=S6 t;omega
  .exact h1
theorem CM (n:Nat) (wv:Int->Bool) (now:List Int):(OX n wv now).length=n:=by simp[OX]
theorem Ra {n:Nat}(wv:Int->Bool) (now:List Int) {a:Nat}(h:a<n):(OX n wv now).getD a 0=pvC n (wv a) now a 3:=by rw[Qh (by rw[CM];exact h)];simp[OX]
theorem YM (n:Nat) (wv:Nat->Int->Bool) (m:Nat):∀ k,(QO n wv m k).length=n
 |0=>by simp[QO]
 |k+1=>CM ..
theorem Ps (n:Nat) (wv:Nat->Int->Bool) (m:Nat):∀ k i,0<=(QO n wv m k).getD i 0/\(QO n wv m k).getD i 0<=1048576
 |0,i=>by
  by_cases h:i<n
  .rw[Qh (by simpa [QO] using h)];simp[QO]
  .rw[ze,zm (by simpa [QO] using h)];decide
 |k+1,i=>by
  by_cases h:i<n
  .show 0<=(OX n (wv (m-1-k)) (QO n wv m k)).getD i 0/\(OX n (wv (m-1-k)) (QO n wv m k)).getD i 0<=1048576;rw[Ra _ _ h];exact⟨Q2j (λi=>(Ps n wv m k i).1) 3,Q3r ..⟩
  .rw[ze,zm (by rw[YM];omega)];decide
def BZ (n:Nat) (wv:Int->Bool) (now:List Int) (i t:Nat):List Int:=(List.range n).map λ(a:Nat)=>if a<i then pvC n (wv (a:Int)) now a 3 else if a=i then pvC n (wv (a:Int)) now a t else 1048576
theorem RF (n:Nat) (wv:Int->Bool) (now:List Int) (i t:Nat):(BZ n wv now i t).length=n:=by simp[BZ]
theorem OA {n:Nat}(wv:Int->Bool) (now:List Int) {i:Nat}(t:Nat) (h:i<n):(BZ n wv now i t).getD i 0=pvC n (wv i) now i t:=by rw[Qh (by rw[RF];exact h)];simp[BZ]
theorem Fs (n:Nat) (wv:Int->Bool) (now:List Int):BZ n wv now 0 0=List.replicate n 1048576:=by refine List.ext_getElem (by simp[BZ]) λa h1 h2=>?_;simp[BZ,pvC]
theorem IF (n:Nat) (wv:Int->Bool) (now:List Int) (i:Nat):BZ n wv now i 3=BZ n wv now (i+1) 0:=by
 refine x9 λa _=>?_;by_cases h:a<i
 .rw[z8 h,z8 (by omega)]
 .by_cases h2:a=i
  .subst h2;rw[zd h,z8 rfl,z8 (by omega)]
  .rw[zd h,zd h2,zd (by omega)];split<;>rfl
theorem Q0i (n:Nat) (wv:Int->Bool) (now:List Int):BZ n wv now n 0=OX n wv now:=by refine x9 λa ha=>?_;rw[z8 (zF.1 ha)]
theorem Ol {n:Nat}(wv:Int->Bool) (now:List Int) (i t:Nat):(BZ n wv now i t).set i (pvC n (wv i) now i (t+1))=BZ n wv now i (t+1):=by
 refine List.ext_getElem (by simp[BZ]) λa h1 h2=>?_;rw[List.getElem_set];simp only[BZ,xT,List.getElem_range];by_cases h:i=a
 .subst h;rw[z8 rfl,zd (by omega),z8 rfl]
 .rw[zd h];by_cases h3:a<i
  .rw[z8 h3,z8 h3]
  .rw[zd h3,zd h3,zd (by omega),zd (by omega)]
theorem Ia {n:Nat}(wv:Int->Bool) (now:List Int) {i:Nat}(t:Nat) (h:wv i=false):BZ n wv now i t=BZ n wv now i (t+1):=by
 refine x9 λa ha=>?_;by_cases h2:a=i
 .subst h2;simp only[wH,if_false,zB];rw[show pvC n (wv (a:Int)) now a (t+1)=if wv (a:Int)=true then DB (pvC n (wv (a:Int)) now a t) (ftC t+now.getD (nxC n a t).toNat 0) else pvC n (wv (a:Int)) now a t from rfl,h];rfl
 .simp only[h2,if_false]
theorem TI {hk:Int}{cs:List UC}{cl:List Int}{p:Nat}(h:p<=cl.length):(Qf hk cs cl).getD p []=QO cs.length (λk=>wvB hk cs cl k) cl.length (cl.length-p):=by rw[Qh (by simp[Qf];omega)];simp only[Qf];rw[List.getElem_reverse];simp
theorem AR (hk:Int) (cs:List UC) (cl:List Int):(Qf hk cs cl).length=cl.length+1:=by simp[Qf]
theorem O9 {n:Nat}{w:Bool}{now:List Int}{a:Nat}(h:pvC n w now a 3<1048576):w=true/\(pvC n w now a 3=ftC 0+now.getD (nxC n a 0).toNat 0\/pvC n w now a 3=ftC 1+now.getD (nxC n a 1).toNat 0\/pvC n w now a 3=ftC 2+now.getD (nxC n a 2).toNat 0):=by
 cases w with
 |false=>simp[pvC] at h
 |true =>refine⟨rfl,?_⟩;simp only[pvC,zB] at h |-;have h1:=(Um 1048576 (ftC ((0:Nat):Int)+now.getD (nxC n a ((0:Nat):Int)).toNat 0)).2.2;have h2:=(Um (DB 1048576 (ftC ((0:Nat):Int)+now.getD (nxC n a ((0:Nat):Int)).toNat 0)) (ftC ((1:Nat):Int)+now.getD (nxC n a ((1:Nat):Int)).toNat 0)).2.2;have h3:=(Um (DB (DB 1048576 (ftC ((0:Nat):Int)+now.getD (nxC n a ((0:Nat):Int)).toNat 0)) (ftC ((1:Nat):Int)+now.getD (nxC n a ((1:Nat):Int)).toNat 0)) (ftC ((2:Nat):Int)+now.getD (nxC n a ((2:Nat):Int)).toNat 0)).2.2;simp only[Int.natCast_zero,Int.natCast_one,show ((2:Nat):Int)=2 from rfl] at h1 h2 h3 h |-;omega
theorem Q2u {n:Nat}{w:Bool}{now:List Int}{a:Nat}(hw:w=true):pvC n w now a 3<=ftC 0+now.getD (nxC n a 0).toNat 0/\pvC n w now a 3<=ftC 1+now.getD (nxC n a 1).toNat 0/\pvC n w now a 3<=ftC 2+now.getD (nxC n a 2).toNat 0:=by subst hw;simp only[pvC,zB];have h1:=Um 1048576 (ftC ((0:Nat):Int)+now.getD (nxC n a ((0:Nat):Int)).toNat 0);have h2:=Um (DB 1048576 (ftC ((0:Nat):Int)+now.getD (nxC n a ((0:Nat):Int)).toNat 0)) (ftC ((1:Nat):Int)+now.getD (nxC n a ((1:Nat):Int)).toNat 0);have h3:=Um (DB (DB 1048576 (ftC ((0:Nat):Int)+now.getD (nxC n a ((0:Nat):Int)).toNat 0)) (ftC ((1:Nat):Int)+now.getD (nxC n a ((1:Nat):Int)).toNat 0)) (ftC ((2:Nat):Int)+now.getD (nxC n a ((2:Nat):Int)).toNat 0);simp only[Int.natCast_zero,Int.natCast_one,show ((2:Nat):Int)=2 from rfl] at h1 h2 h3 |-;omega
theorem EI {n:Nat}(hn:0<n) {a s:Int}(ha:0<=a) (hs:0<=s):0<=nxC n a s/\nxC n a s<n:=by unfold nxC;rw[Int.tmod_eq_emod_of_nonneg (by omega)];exact⟨Int.emod_nonneg _ (by omega),Int.emod_lt_of_pos _ (by omega)⟩
theorem DQ {l:List Int}(h:l ≠ []):Za l ∈ l /\ ∀ x ∈ l, Za l <= x:=by
  cases l with
  | nil => exact (h rfl).elim
  | cons a l =>
    show l.foldl DB a ∈ a :: l /\ _;have key:∀ (l:List Int) (a:Int), (l.foldl DB a = a \/ l.foldl DB a ∈ l) /\ l.foldl DB a <= a /\ ∀ x ∈ l, l.foldl DB a <= x:=by
      intro l;induction l with
      | nil => exactλa => ⟨.inl rfl, Int.le_refl _, λx hx => by cases hx⟩
      | cons b l ih =>
        intro a;obtain ⟨h1, h2, h3⟩:=ih (DB a b);obtain ⟨g1, g2, g3⟩:=Um a b;rw [w6];refine ⟨?_, by omega, λx hx => ?_⟩
        . rcases h1 with h1 | h1
          . rw [h1]; rcases g3 with g3 | g3
            . exact .inl g3
            . exact .inr (by rw [g3]; exact zq ..)
          . exact .inr (zi _ h1)
        . rcases zo.1 hx with rfl | hx
          . omega
          . exact h3 x hx
    obtain ⟨h1, h2, h3⟩:=key l a
    refine ⟨by rcases h1 with h1 | h1
               . show l.foldl DB a ∈ _; rw [h1]; exact zq ..
               . exact zi _ h1, λx hx => ?_⟩
    rcases zo.1 hx with rfl | hx
    . exact h2
    . exact h3 x hx
theorem Lw (n:Nat) (now nxt:List Int) (a:Int):0<=SL n now nxt a/\SL n now nxt a<=2:=by unfold SL;split;omega;split<;>omega
theorem LQ {n:Nat}{wv:Nat->Int->Bool}{m k:Nat}{a:Int}(ha:0<=a/\a<n) (h:(QO n wv m (k+1)).getD a.toNat 0<1048576) :
  wv (m-1-k) a=true/\ftC (SL n (QO n wv m (k+1)) (QO n wv m k) a)+(QO n wv m k).getD (nxC n a (SL n (QO n wv m (k+1)) (QO n wv m k) a)).toNat 0=(QO n wv m (k+1)).getD a.toNat 0:=by
 obtain⟨a,rfl⟩:∃ b:Nat,a=b:=⟨a.toNat,by omega⟩;have e:(QO n wv m (k+1)).getD (a:Int).toNat 0=pvC n (wv (m-1-k) a) (QO n wv m k) a 3:=by rw[zw];exact Ra _ _ (by omega)
 rw[e] at h;obtain⟨h1,h2⟩:=O9 h;refine⟨h1,?_⟩;rw[<-e] at h2;unfold SL;split
 .rename_i c;exact c
 .split
  .rename_i c;exact c
  .rcases h2 with h2|h2|h2
   .rename_i c _;exact(c h2.symm).elim
   .rename_i c;exact(c h2.symm).elim
   .exact h2.symm
theorem Cq {n:Nat}{now nxt:List Int}{a t:Int}(h0:0<=t) (h:ftC t+nxt.getD (nxC n a t).toNat 0=now.getD a.toNat 0):SL n now nxt a<=t:=by
 unfold SL;split
 .exact h0
 .rename_i c;have h1:t≠0:=λe=>by subst e;exact c h
  split
  .omega
  .rename_i c2;have h2:t≠1:=λe=>by subst e;exact c2 h
   omega
theorem Q1n {n:Nat}{wv:Nat->Int->Bool}{m k:Nat}{a:Int}(ha:0<=a/\a<n):(QO n wv m (k+1)).getD a.toNat 0=pvC n (wv (m-1-k) a) (QO n wv m k) a.toNat 3:=by obtain⟨a,rfl⟩:∃ b:Nat,a=b:=⟨a.toNat,by omega⟩;rw[zw];exact Ra _ _ (by omega)
def KU:AL (Int×Int):=(.cons (.k (.i .u32)) (.one (.k (.i .u32))))
def Gi (d:Int×Int):Prop:=False
def K9 (d:Int×Int):SV:=.tup [.val (.i .u32) (0:Int),.val (.i .u32) (0:Int)]
def Kx (d:Int×Int):List OB:=[]
def WT:CSp:=V7 KU Gi K9 Kx
def Wd (a:Int) (b:Int):Prop :=
 (InK .u64 a)/\(InK .u64 b)/\(InK .u64 (a*b))/\(0<=(32:Int))/\(InK .u32 (X7 .u64 (a*b) (32:Int)))/\(InK .u32 (a*b))/\(((X7 .u64 (a*b) (32:Int))=(0:Int)/\(a*b)=(0:Int)/\(([]:List SV)=[]))/\(True))
def V4:Cx:=⟨[],[],17,[],0,[],[],[],[],false,[],[],[],[]⟩
def Dk (a:Int) (b:Int):List (Nat×LoopAnn):=[]
theorem GD (d:Int×Int):gwp (V4) (Dk d.1 d.2) Z0f 0 (Vv [.tmp 4,.tmp 5] (K9 d) (Kx d)) (Qw 17 (AL.can KU d))=Wd d.1 d.2:=by kernel_rfl
abbrev D5:Prop:=OkC Tryz.prog 165 WT
theorem Du (h:∀ (a:Int) (b:Int),(False)->Wd a b):OkC Tryz.prog 165 WT :=
 Z4 FV mixed (C:=V4) (V:=λ(d:Int×Int)=>Wd d.1 d.2) ⟨.nil,XsOk.nil,ItsOk.nil,YlOk.nil,IysOk.nil,XfOk.nil⟩ (GD) λd hp=>h d.1 d.2 hp
theorem Da:D5:=Du λa b h=>h.elim
def KW:AL (Int×Int):=(.cons (.k (.i .u64)) (.one (.k (.i .u64))))
def G6 (d:Int×Int):Prop:=0<=d.1/\d.1<=65535/\0<=d.2/\d.2<=65535
def KE (d:Int×Int):SV:=.tup [.val (.i .u64) (0:Int),.val (.i .u64) (d.1*d.2)]
def K1 (d:Int×Int):List OB:=[]
def WQ:CSp:=V7 KW G6 KE K1
abbrev Me (a:Int) (b:Int):=(((X7 .u64 a (32:Int))*(Q7 .and .u64 b (4294967295:Int)))+(X7 .u64 ((Q7 .and .u64 a (4294967295:Int))*(Q7 .and .u64 b (4294967295:Int))) (32:Int)))
abbrev Rt (a:Int) (b:Int):=((((X7 .u64 a (32:Int))*(X7 .u64 b (32:Int)))+(X7 .u64 (Me a b) (32:Int)))+(X7 .u64 ((Q7 .and .u64 (Me a b) (4294967295:Int))+((Q7 .and .u64 a (4294967295:Int))*(X7 .u64 b (32:Int)))) (32:Int)))
def JI (a:Int) (b:Int):Prop :=
 (0<=(32:Int))/\(0<=(32:Int))/\(InK .u64 ((Q7 .and .u64 a (4294967295:Int))*(Q7 .and .u64 b (4294967295:Int))))/\(InK .u64 ((X7 .u64 a (32:Int))*(Q7 .and .u64 b (4294967295:Int))))/\(0<=(32:Int))/\(InK .u64 (Me a b))/\(0<=(32:Int))/\(InK .u64 ((Q7 .and .u64 a (4294967295:Int))*(X7 .u64 b (32:Int))))/\(InK .u64 ((Q7 .and .u64 (Me a b) (4294967295:Int))+((Q7 .and .u64 a (4294967295:Int))*(X7 .u64 b (32:Int)))))/\(InK .u64 ((X7 .u64 a (32:Int))*(X7 .u64 b (32:Int))))/\(InK .u64 (((X7 .u64 a (32:Int))*(X7 .u64 b (32:Int)))+(X7 .u64 (Me a b) (32:Int))))/\(0<=(32:Int))/\(InK .u64 (Rt a b))/\(InK .u64 (a*b))/\(((Rt a b)=(0:Int)/\(a*b)=(a*b)/\(([]:List SV)=[]))/\(True))
def V3:Cx:=⟨[],[],51,[],0,[],[],[],[],false,[],[],[],[]⟩
def Dw (a:Int) (b:Int):List (Nat×LoopAnn):=[]
theorem D8 (d:Int×Int):gwp (V3) (Dw d.1 d.2) Q9v 0 (Vv [.tmp 4,.tmp 5] (KE d) (K1 d)) (Qw 51 (AL.can KW d))=JI d.1 d.2:=by kernel_rfl
abbrev D6:Prop:=OkC Tryz.prog 166 WQ
theorem D3 (h:∀ (a:Int) (b:Int),(0<=a/\a<=65535/\0<=b/\b<=65535)->JI a b):OkC Tryz.prog 166 WQ :=
 Z4 Fh mixed (C:=V3) (V:=λ(d:Int×Int)=>JI d.1 d.2) ⟨.nil,XsOk.nil,ItsOk.nil,YlOk.nil,IysOk.nil,XfOk.nil⟩ (D8) λd hp=>h d.1 d.2 hp
theorem Q0e {x:Nat}(h:x<18446744073709551616):IntKind.wrap .u64 (x:Int)=x:=by
 have e:((x:Int) % (18446744073709551616:Int))=x:=by omega
 show (if (false&&decide ((x:Int) % (18446744073709551616:Int)>=9223372036854775808))=true then (x:Int) % (18446744073709551616:Int)-18446744073709551616 else (x:Int) % (18446744073709551616:Int))=x;simp only[e,Bool.false_and,zD,if_false]
theorem HE {x:Nat}(h:x<=4294967295):Q7 .and .u64 (x:Int) 4294967295=x:=by
 have e:(BitVec.ofInt 64 (x:Int) &&& BitVec.ofInt 64 (4294967295:Int)).toNat=x:=by rw[BitVec.toNat_and,HR (by omega),show (4294967295:Int)=((4294967295:Nat):Int) from rfl,HR (by omega)];have:=Nat.and_two_pow_sub_one_eq_mod x 32;simp only[Nat.reducePow,Nat.add_one_sub_one,Nat.reduceSub] at this;rw[this];omega
 show IntKind.wrap .u64 ((BitVec.ofInt 64 (x:Int) &&& BitVec.ofInt 64 (4294967295:Int)).toNat:Int)=_;rw[e,Q0e (by omega)]
theorem GJ {x:Nat}(h:x<=4294967295):X7 .u64 (x:Int) 32=0:=by have:Nat.min (Int.toNat 32) 64=32:=rfl;simp only[X7,IntKind.bits,this];rw[Int.fdiv_eq_ediv_of_nonneg _ (Int.le_of_lt (Int.pow_pos (by omega)))];omega
theorem GO:D6:=D3 λa b h=>by
 obtain⟨h1,h2,h3,h4⟩:=h;obtain⟨x,rfl⟩:=xm h1;obtain⟨y,rfl⟩:=xm h3;have wc:x*y<=65535*65535:=Nat.mul_le_mul (by omega) (by omega);have e0:((0:Nat):Int)=0:=rfl;have s0:=GJ (x:=0) (by omega);have m0:=HE (x:=0) (by omega);rw[e0] at s0 m0;have s3:=GJ (x:=x*y) (by omega);have e1:(x:Int)*(y:Int)=((x*y:Nat):Int):=by norm_cast
 unfold JI;(try delta Me Rt);(try delta lI gD sT I64 NF pj8 pj4);simp only[true_and,and_true,eq_self_iff_true,exists_eq_left',exists_const,zk,xy,zT,bne_iff_ne,ne_eq,xH,bne_eq_false_iff_eq,Bool.not_eq_true',xq,xB,wx,zw,Int.ofNat_lt,gt_iff_lt,ge_iff_le,HE (show x<=4294967295 by omega),HE (show y<=4294967295 by omega),GJ (show x<=4294967295 by omega),GJ (show y<=4294967295 by omega),e1,s3,Int.zero_mul,Int.mul_zero,Int.add_zero,m0,s0,DU];and_intros<;>omega
def UK:AL (Int×Int):=(.cons (.k (.i .u64)) (.one (.k (.i .u64))))
def Ba (d:Int×Int):Prop:=0<=d.1/\d.1<=65535/\0<=d.2/\d.2<=65535
def Vn (d:Int×Int):SV:=.tup [.val (.i .u64) (0:Int),.val (.i .u64) (d.1*d.2)]
def VA (d:Int×Int):List OB:=[]
def Kb:CSp:=V7 UK Ba Vn VA
def Xt (a:Int) (b:Int):Prop :=
 (false=true ->
  (InK .u32 a)/\(InK .u32 b)/\(False)/\(InK .u64 (0:Int))/\(InK .u64 (0:Int))/\(((0:Int)=(0:Int)/\(0:Int)=(a*b)/\(([]:List SV)=[]))/\(True))) /\
 (false=false ->
  (0<=a/\a<=65535/\0<=b/\b<=65535)/\(((0:Int)=(0:Int)/\(a*b)=(a*b)/\(([]:List SV)=[]))/\(True)))
def UB:Cx:=⟨[],[(165,WT),(166,WQ)],30,[],0,[],[],[],[],false,[],[],[],[]⟩
def BS (a:Int) (b:Int):List (Nat×LoopAnn):=[]
theorem BY (d:Int×Int):gwp (UB) (BS d.1 d.2) Q9y 0 (Vv [.tmp 4,.tmp 5] (Vn d) (VA d)) (Qw 30 (AL.can UK d))=Xt d.1 d.2:=by kernel_rfl
abbrev BL:Prop:=OkC Tryz.prog 144 Kb
theorem BP (h:∀ (a:Int) (b:Int),(0<=a/\a<=65535/\0<=b/\b<=65535)->Xt a b):OkC Tryz.prog 144 Kb :=
 Z4 FO mixed (C:=UB) (V:=λ(d:Int×Int)=>Xt d.1 d.2) ⟨(.cons Da (.cons GO .nil)),XsOk.nil,ItsOk.nil,YlOk.nil,IysOk.nil,XfOk.nil⟩ (BY) λd hp=>h d.1 d.2 hp
theorem H2:BL:=BP λa b h=>by simp only[Xt];exact⟨λh=>by simp at h,λ_=>⟨h,(by and_intros<;>first|rfl|trivial|simp)⟩⟩
def XX:AL (List Int×Int):=(.cons (.k (.list (.i .i64))) (.one (.k (.i .i64))))
def V9 (d:List Int×Int):Prop:=d.1.length<=1000/\0<=d.2/\d.2<=1000
def Xf (d:List Int×Int):SV:=.lst 0
def Xq (d:List Int×Int):List OB:=[.lst 3 (.i .i64) (Np d.1 d.2.toNat) false]
def Jp:CSp:=V7 XX V9 Xf Xq
def Z5 (l:List Int) (n:Int):Prop :=
 ((decide (n<(0:Int)))=true ->
  False) /\
 ((decide (n<(0:Int)))=false ->
  (InK .u64 (lI l))/\(InK .u64 n)/\(0<=(lI l)/\(lI l)<=65535/\0<=n/\n<=65535)/\(((decide ((0:Int) > (0:Int)))||(decide (((lI l)*n) > (9223372036854775807:Int))))=true ->
   False) /\
  (((decide ((0:Int) > (0:Int)))||(decide (((lI l)*n) > (9223372036854775807:Int))))=false ->
   (I64 ((lI l)*n))/\(0<=((lI l)*n))/\(((lI l)*n)<=((lI l)*n))/\(((lI l)*n)*8<=70368744177664)/\(((lI l)*n)<=70368744177664)/\∃ (e2:Unit) (d20:(List Int)×Int),((True/\((Nat.min (List.length l) (List.length (List.replicate (Int.toNat ((lI l)*n)) (0:Int))):Nat):Int)=d20.2/\True)/\((((List.take (List.length (List.replicate (Int.toNat ((lI l)*n)) (0:Int))) l)++(List.drop (List.length l) (List.replicate (Int.toNat ((lI l)*n)) (0:Int))))=d20.1/\false=false)/\True)) /\
   LoopP (λ(d2:(List Int)×Int) (q2:((List Int)×Int)->Prop) =>
    ((decide (d2.2<(lI d2.1)))=true ->
     (0<=d2.2)/\(d2.2<=(lI d2.1))/\((lI d2.1)<=(List.length d2.1))/\(0<=(0:Int))/\((0:Int)<=d2.2)/\(d2.2<=(List.length d2.1))/\(I64 (d2.2+((Nat.min (List.length (List.take (Int.toNat (d2.2-(0:Int))) (List.drop (Int.toNat (0:Int)) d2.1))) (Int.toNat ((lI d2.1)-d2.2)):Nat):Int)))/\(∃ d3:(List Int)×Int,((True/\(d2.2+((Nat.min (List.length (List.take (Int.toNat (d2.2-(0:Int))) (List.drop (Int.toNat (0:Int)) d2.1))) (Int.toNat ((lI d2.1)-d2.2)):Nat):Int))=d3.2/\True)/\((((List.take (Int.toNat d2.2) d2.1)++((List.take (Int.toNat ((lI d2.1)-d2.2)) (List.take (Int.toNat (d2.2-(0:Int))) (List.drop (Int.toNat (0:Int)) d2.1)))++(List.drop ((Int.toNat d2.2)+Nat.min (List.length (List.take (Int.toNat (d2.2-(0:Int))) (List.drop (Int.toNat (0:Int)) d2.1))) (Int.toNat ((lI d2.1)-d2.2))) d2.1)))=d3.1/\false=false)/\True))/\q2 d3)) /\
    ((decide (d2.2<(lI d2.1)))=false ->
     (True/\((d2.1=(Np l n.toNat)/\false=false)/\True)))) d20))
def XE:Cx:=⟨[(3,(.i .i64))],[(144,Kb)],48,[],0,[],[],[],[],false,[],[],[],[]⟩
def Vt (l:List Int) (n:Int):List (Nat×LoopAnn):=[(0,⟨Unit,(List Int)×Int,[7,8],λe x=>[.lst 30,.val (.i .i64) x.2],λe x=>[(30,.slot 7,.lst 3 (.i .i64) x.1 false)]⟩)]
theorem VK (d:List Int×Int):gwp (XE) (Vt d.1 d.2) Z0n 0 (Vv [.tmp 4] (Xf d) (Xq d)) (Qw 48 (AL.can XX d))=Z5 d.1 d.2:=by kernel_rfl
abbrev VI:Prop:=OkC Tryz.prog 115 Jp
theorem VR (h:∀ (l:List Int) (n:Int),(l.length<=1000/\0<=n/\n<=1000)->Z5 l n):OkC Tryz.prog 115 Jp :=
 Z4 FE mixed (C:=XE) (V:=λ(d:List Int×Int)=>Z5 d.1 d.2) ⟨(.cons H2 .nil),XsOk.nil,ItsOk.nil,YlOk.nil,IysOk.nil,XfOk.nil⟩ (VK) λd hp=>h d.1 d.2 hp
theorem VB:VI:=VR λl n h=>by
 obtain⟨h1,h2,h3⟩:=h;obtain⟨m,rfl⟩:=xm h2;have we:l.length*m<=1000*1000:=Nat.mul_le_mul h1 (by omega);have e1:(l.length:Int)*(m:Int)=((l.length*m:Nat):Int):=by norm_cast
 unfold Z5;(try delta lI gD sT I64 NF pj8 pj4);simp only[true_and,and_true,eq_self_iff_true,exists_eq_left',exists_const,zk,xy,zT,bne_iff_ne,ne_eq,xH,bne_eq_false_iff_eq,Bool.not_eq_true',xq,xB,wx,zw,Int.ofNat_lt,gt_iff_lt,ge_iff_le,e1,Qm,DU,Int.sub_zero,xV,Int.toNat_zero,x5];refine⟨by omega,λ_=>⟨by omega,by omega,by omega,λh=>?_,λh=>⟨by omega,by omega,by omega,by omega,by omega,?_⟩⟩⟩
 .simp at h;omega
 refine⟨(_,_),(by and_intros<;>first|rfl|trivial|simp),?_⟩;refine⟨λd=>∃ k:Nat,d.2=k/\Q6w l m d.1 k,λd=>d.1.length-d.2.toNat,⟨_,rfl,EU l m _⟩,?_⟩;rintro⟨xs,_⟩ ⟨k,rfl,hI⟩;dsimp only at hI |-;have fC:=hI.1;have hk:=hI.2.1;refine⟨λah=>?_,λbn=>?_⟩
 .have ah:k<xs.length:=by omega
  obtain⟨g1,g2⟩:=Fy hI ah;have e2:((xs.length:Int)-(k:Int)).toNat=xs.length-k:=by omega
  have g3:=g1.2.1;have g4:=g1.1;have hc:Nat.min (List.take k xs).length (xs.length-k)<=1000000:=by have:Nat.min (List.take k xs).length (xs.length-k)<=_:=Nat.min_le_left _ _;simp only[xE] at this |-;omega
  simp only[zw,e2];generalize Nat.min (List.take k xs).length (xs.length-k)=c at g1 g2 g3 g4 hc |-;refine⟨by omega,by omega,by omega,by omega,by omega,by omega,⟨by omega,by omega⟩,(_,((k+c:Nat):Int)),(by and_intros<;>first|rfl|trivial|omega),⟨_,rfl,g1⟩,?_⟩;dsimp only;rw[g4];omega
 .have:=OW hI (by omega);rw[this]
def JO:AL (Unit):=.nil
def YI (xs:List (List Int)) (nl:Bool) (d:Unit):Prop:=xs.length<=1000000
def JH (xs:List (List Int)) (nl:Bool) (d:Unit):SV:=.tup []
def Jt (xs:List (List Int)) (nl:Bool) (d:Unit):List (List Int):=(List.reverse xs)
def ZH:XSp:=Q0d Nj (AU 27 (.list (.i .i64)) JO YI JH Jt)
def Zq (xs:List (List Int)) (nl:Bool) :Prop:=∀ vals:List Value,
 (I64 ((lI xs)-(1:Int)))/\∃ (e3:Unit) (d30:(List (List Int))×Int×Int),((True/\(0:Int)=d30.2.1/\((lI xs)-(1:Int))=d30.2.2/\True)/\((xs=d30.1/\nl=nl)/\(vals=vals/\(True/\(([]:List SV)=[])))/\True)) /\
 LoopP (λ(d3:(List (List Int))×Int×Int) (q3:((List (List Int))×Int×Int)->Prop) =>
  ((decide (d3.2.1<d3.2.2))=true ->
   (0<=d3.2.2)/\(d3.2.2<(List.length d3.1))/\(0<=d3.2.1)/\(d3.2.1<(List.length d3.1))/\(0<=d3.2.1)/\(d3.2.1<(List.length d3.1))/\(0<=d3.2.2)/\(d3.2.2<(List.length (sT d3.1 d3.2.1 (gD d3.1 d3.2.2 []))))/\(I64 (d3.2.1+(1:Int)))/\(I64 (d3.2.2-(1:Int)))/\(∃ d4:(List (List Int))×Int×Int,((True/\(d3.2.1+(1:Int))=d4.2.1/\(d3.2.2-(1:Int))=d4.2.2/\True)/\(((sT (sT d3.1 d3.2.1 (gD d3.1 d3.2.2 [])) d3.2.2 (gD d3.1 d3.2.1 []))=d4.1/\nl=nl)/\(vals=vals/\(True/\(([]:List SV)=[])))/\True))/\q3 d4)) /\
  ((decide (d3.2.1<d3.2.2))=false ->
   (vals=vals/\(True/\(([]:List SV)=[]))/\((([]:List SV)=[]))/\(d3.1=(List.reverse xs)/\nl=nl)))) d30
def JT:Cx:=⟨[],[],28,[0],0,[],[],[],[],false,[],[],[],[]⟩
def JZ (xs:List (List Int)) (nl:Bool)  (vals:List Value):List (Nat×LoopAnn):=[(0,⟨Unit,(List (List Int))×Int×Int,[0,2,3],λe x=>[.lst 0,.val (.i .i64) x.2.1,.val (.i .i64) x.2.2],λe x=>[(0,.slot 0,.lst 27 (.list (.i .i64)) x.1 nl),(4000000,.key 4000000,.stk [.lst 0] vals)]⟩)]
theorem KA (xs:List (List Int)) (nl:Bool) (d:Unit):(∀ vals,gwp JT (JZ xs nl  vals) Z05 0 (Q3y vals [] (JH xs nl d) (.lst 27 (.list (.i .i64)) (Jt xs nl d) nl) (.lst 0)) (D4 28 (.lst 0) (.lst 27 (.list (.i .i64)) xs nl) vals (AL.can JO d)))=Zq xs nl :=by kernel_rfl
abbrev Kq:Prop:=XOk Tryz.prog 117 ZH
theorem KJ (h:∀ (xs:List (List Int)) (nl:Bool) ,(xs.length<=1000000)->Zq xs nl ):XOk Tryz.prog 117 ZH :=
 Ie Ix mixed Ku (C:=JT) ⟨.nil,XsOk.nil,ItsOk.nil,YlOk.nil,IysOk.nil,XfOk.nil⟩ (L:=λxs nl (d:Unit) vals=>JZ xs nl  vals) (V:=λxs nl (d:Unit)=>Zq xs nl ) KA λxs nl d hp=>h xs nl  hp
theorem YH:Kq:=KJ λxs nl hl vals=>by
 (try delta lI gD sT I64 NF pj8 pj4)
 simp only[true_and,and_true,eq_self_iff_true,exists_eq_left',exists_const,zk,xy,zT,bne_iff_ne,ne_eq,xH,bne_eq_false_iff_eq,Bool.not_eq_true',xq,xB,wx,zw,Int.ofNat_lt,gt_iff_lt,ge_iff_le,Qm];refine⟨by omega,(xs,0,(xs.length:Int)-1),⟨⟨rfl,rfl⟩,rfl⟩,?_⟩;refine⟨λd=>∃ i:Nat,d.2.1=i/\d.2.2=(xs.length:Int)-1-i/\2*i<=xs.length+1/\d.1.length=xs.length/\∀ k,k<xs.length->d.1[k]?=if k<i\/xs.length<=k+i then xs[xs.length-1-k]? else xs[k]?,λd=>xs.length-2*d.2.1.toNat,⟨0,rfl,by simp,by omega,rfl,λk hk=>by rw[zd (by omega)]⟩,?_⟩;rintro⟨ys,a,b⟩ ⟨i,ha,hb,h1,h2,h3⟩;simp only at ha hb h2 h3;subst ha;subst hb;refine⟨λah=>?_,λbn=>?_⟩
 .dsimp only at ah |-;have hi:i<xs.length:=by omega
  have hj:xs.length-1-i<xs.length:=by omega
  have n_:((xs.length:Int)-1-i).toNat=xs.length-1-i:=by omega
  simp only[zw,n_,xK,h2];refine⟨by omega,by omega,by omega,by omega,by omega,by omega,by omega,by omega,by omega,by omega,(_,_,_),⟨⟨rfl,rfl⟩,rfl⟩,⟨i+1,by simp,by simp;omega,by omega,by simp[h2],λk hk=>?_⟩,by simp;omega⟩;simp only[xI,xK,h2];have e1:=h3 i hi;have e2:=h3 (xs.length-1-i) hj;rw[zd (by omega)] at e1 e2;have g1:ys.getD i []=xs[i]:=by rw[ze,e1,z6 hi];rfl
  have g2:ys.getD (xs.length-1-i) []=xs[xs.length-1-i]:=by rw[ze,e2,z6 hj];rfl
  rw[g1,g2];by_cases k1:xs.length-1-i=k
  .subst k1;rw[z8 rfl,z8 hj,z8 (by omega)];have:xs.length-1-(xs.length-1-i)=i:=by omega
   rw[this,z6 hi]
  .rw[zd k1];by_cases k2:i=k
   .subst k2;rw[z8 rfl,z8 hi,z8 (by omega),z6 hj]
   .rw[zd k2,h3 k hk];by_cases k3:k<i\/xs.length<=k+i
    .rw[z8 k3,z8 (by omega)]
    .rw[zd k3,zd (by omega)]
 .dsimp only at bn |-;apply zV;intro k;by_cases hk:k<xs.length
  .rw[h3 k hk,List.getElem?_reverse hk];by_cases k3:k<i\/xs.length<=k+i
   .rw[z8 k3]
   .rw[zd k3];have:xs.length-1-k=k:=by omega
    rw[this]
  .rw[zm (by omega),zm (by simp;omega)]
def Yg:AL (List Int):=(.one (.k (.list (.i .i64))))
def UZ (d:List Int):Prop:=d≠[]/\d.length<=1000000
def Wy (d:List Int):SV:=.val (.i .i64) (Za d)
def WD (d:List Int):List OB:=[]
def Xd:CSp:=V7 Yg UZ Wy WD
def ZO (l:List Int):Prop :=
 ((decide ((lI l)<(1:Int)))=true ->
  False) /\
 ((decide ((lI l)<(1:Int)))=false ->
  (0<=(0:Int))/\((0:Int)<(List.length l))/\∃ (e2:Unit) (d20:Int×Int),((l=l/\(gD l (0:Int) 0)=d20.1/\(1:Int)=d20.2/\True)/\(True)) /\
  LoopP (λ(d2:Int×Int) (q2:(Int×Int)->Prop) =>
   ((decide (d2.2<(lI l)))=true ->
    (0<=d2.2)/\(d2.2<(List.length l))/\(I64 (d2.2+(1:Int)))/\(∃ d3:Int×Int,((l=l/\(DB d2.1 (gD l d2.2 0))=d3.1/\(d2.2+(1:Int))=d3.2/\True)/\(True))/\q2 d3)) /\
   ((decide (d2.2<(lI l)))=false ->
    (d2.1=(Za l)/\(True)))) d20)
def Yj:Cx:=⟨[],[],25,[],0,[],[],[],[],false,[],[],[],[]⟩
def Nr (l:List Int):List (Nat×LoopAnn):=[(0,⟨Unit,Int×Int,[0,3,4],λe x=>[.val (.list (.i .i64)) l,.val (.i .i64) x.1,.val (.i .i64) x.2],λe x=>[]⟩)]
theorem Nl (d:List Int):gwp (Yj) (Nr d) c75 0 (Vv [.tmp 2] (Wy d) (WD d)) (Qw 25 (AL.can Yg d))=ZO d:=by kernel_rfl
abbrev NC:Prop:=OkC Tryz.prog 75 Xd
theorem M9 (h:∀ (l:List Int),(l≠[]/\l.length<=1000000)->ZO l):OkC Tryz.prog 75 Xd :=
 Z4 Q5m mixed (C:=Yj) (V:=λ(d:List Int)=>ZO d) ⟨.nil,XsOk.nil,ItsOk.nil,YlOk.nil,IysOk.nil,XfOk.nil⟩ (Nl) λd hp=>h d hp
theorem NO:NC:=M9 λl h=>by
 obtain⟨h1,h2⟩:=h;have hl:0<l.length:=xC.2 h1;unfold ZO;(try delta lI gD sT I64 NF pj8 pj4);simp only[true_and,and_true,eq_self_iff_true,exists_eq_left',exists_const,zk,xy,zT,bne_iff_ne,ne_eq,xH,bne_eq_false_iff_eq,Bool.not_eq_true',xq,xB,wx,zw,Int.ofNat_lt,gt_iff_lt,ge_iff_le,Qm];refine⟨λh=>by omega,λ_=>⟨by omega,by omega,(l[0],1),⟨⟨by rw[show Int.toNat 0=0 from rfl,Qh hl],rfl⟩,?_⟩⟩⟩;have e0:l[0]=l.getD 0 0:=by rw[Qh hl]
 refine⟨λd=>∃ k:Nat,k<l.length/\d=((l.tail.take k).foldl DB (l.getD 0 0),(k:Int)+1),λd=>l.length-d.2.toNat,⟨0,by omega,by rw[e0];rfl⟩,?_⟩;rintro _ ⟨k,bw,rfl⟩;dsimp only;have ht:l.tail.length=l.length-1:=List.length_tail ..;refine⟨λah=>?_,λbn=>?_⟩
 .have ah:k<l.tail.length:=by omega
  refine⟨by omega,by omega,by omega,(_,_),⟨rfl,rfl⟩,⟨k+1,by omega,?_⟩,by simp;omega⟩;rw[KX ah,List.foldl_append,show ((k:Int)+1).toNat=k+1 from rfl,Qh (show k+1<l.length by omega),Prod.mk.injEq,List.getElem_tail];exact⟨rfl,by omega⟩
 .rw[zy (by omega)];rfl
def Wh:AL (List Int×Int):=(.cons (.k (.list (.i .i64))) (.one (.k (.i .i64))))
def Vo (d:List Int×Int):Prop:=d.1.length<=1000000
def XV (d:List Int×Int):SV:=.val (.i .i64) (Gt d.1 (λy=>decide (y=d.2)))
def XJ (d:List Int×Int):List OB:=[]
def JB:CSp:=V7 Wh Vo XV XJ
def Zf (l:List Int) (nd:Int):Prop :=
 ∃ (e2:Unit) (d20:Int),((l=l/\nd=nd/\(lI l)=(lI l)/\(0:Int)=d20/\True)/\(True)) /\
 LoopP (λ(d2:Int) (q2:(Int)->Prop) =>
  ((decide (d2<(lI l)))=true ->
   (0<=d2)/\(d2<(List.length l))/\((nd==(gD l d2 0))=true ->
    (d2=(Gt l (λy=>decide (y=nd)))/\(True))) /\
   ((nd==(gD l d2 0))=false ->
    (I64 (d2+(1:Int)))/\(∃ d3:Int,((l=l/\nd=nd/\(lI l)=(lI l)/\(d2+(1:Int))=d3/\True)/\(True))/\q2 d3))) /\
  ((decide (d2<(lI l)))=false ->
   ((-1:Int)=(Gt l (λy=>decide (y=nd)))/\(True)))) d20
def Wl:Cx:=⟨[],[],19,[],0,[],[],[],[],false,[],[],[],[]⟩
def Ui (l:List Int) (nd:Int):List (Nat×LoopAnn):=[(0,⟨Unit,Int,[0,1,7,8],λe x=>[.val (.list (.i .i64)) l,.val (.i .i64) nd,.val (.i .i64) (((List.length l):Nat):Int),.val (.i .i64) x],λe x=>[]⟩)]
theorem Uv (d:List Int×Int):gwp (Wl) (Ui d.1 d.2) c76 0 (Vv [.tmp 4] (XV d) (XJ d)) (Qw 19 (AL.can Wh d))=Zf d.1 d.2:=by kernel_rfl
abbrev Ur:Prop:=OkC Tryz.prog 76 JB
theorem Ux (h:∀ (l:List Int) (nd:Int),(l.length<=1000000)->Zf l nd):OkC Tryz.prog 76 JB :=
 Z4 Q49 mixed (C:=Wl) (V:=λ(d:List Int×Int)=>Zf d.1 d.2) ⟨.nil,XsOk.nil,ItsOk.nil,YlOk.nil,IysOk.nil,XfOk.nil⟩ (Uv) λd hp=>h d.1 d.2 hp
theorem Uw:Ur:=Ux λl nd hp=>by
 unfold Zf;(try delta lI gD sT I64 NF pj8 pj4);simp only[true_and,and_true,eq_self_iff_true,exists_eq_left',exists_const,zk,xy,zT,bne_iff_ne,ne_eq,xH,bne_eq_false_iff_eq,Bool.not_eq_true',xq,xB,wx,zw,Int.ofNat_lt,gt_iff_lt,ge_iff_le];refine LoopP.count l.length (λk=>(l.take k).any (λy=>decide (y=nd))=false) (by simp) λk bw hJ q hq=>?_;simp only[true_and,and_true,eq_self_iff_true,exists_eq_left',exists_const,zk,xy,zT,bne_iff_ne,ne_eq,xH,bne_eq_false_iff_eq,Bool.not_eq_true',xq,xB,wx,zw,Int.ofNat_lt,gt_iff_lt,ge_iff_le,Qm];refine⟨λah=>?_,λbn=>?_⟩
 .rw[Qh ah];refine⟨by omega,ah,λhx=>?_,λhx=>⟨by omega,hq ah ?_⟩⟩
  .rw[SB ah (by simp[hx]) hJ]
  .rw[KX ah,List.any_append,hJ];simp;omega
 .rw[zy (by omega)] at hJ;rw[Hw hJ]
def Xa:Cx:=⟨[],[],4,[],0,[],[],[],[],false,[],[],[],[]⟩
def Xj:XSp:=Q0j Xa (λ_=>[]) Z0p [.tmp 2] 4
theorem K5:XOk Tryz.prog 114 Xj:=NV Im mixed (C:=Xa) ⟨.nil,XsOk.nil,ItsOk.nil,YlOk.nil,IysOk.nil,XfOk.nil⟩ _
def Wf:AL (Int×(List (Int×Int×Bool))×Int×List Int):=(.one (.agg (.cons (.k (.i .i64)) (.cons (.k (.list (.pair (.i .i64) (.pair (.i .i64) .bo)))) (.cons (.k (.i .i64)) (.one (.k (.list (.i .i64)))))))))
def VN (d:Int×(List (Int×Int×Bool))×Int×List Int):Prop:=d.2.2.1=d.1/\Z1 d.1 d.2.1=0/\d.2.2.2.length<=60/\(∀ r∈d.2.2.2,-1<=r/\r<2 ^ d.1.toNat)
def XK (d:Int×(List (Int×Int×Bool))×Int×List Int):SV:=.lst 0
def XN (d:Int×(List (Int×Int×Bool))×Int×List Int):List OB:=[.lst 27 (.list (.i .i64)) (Qf d.1 d.2.1 d.2.2.2) false]
def UX:CSp:=V7 Wf VN XK XN
def Ze (hk:Int) (cs:List (Int×Int×Bool)) (f:Int) (cl:List Int):Prop :=
 (0<=(lI cs))/\((lI cs)<=(lI cs))/\((lI cs)*8<=70368744177664)/\((lI cs)<=70368744177664)/\∀ w1:List Value,w1=w1/\(List.length cl<4611686018427387904)/\∃ (e4:Unit) (d40:(List Int)×(List (List Int))),((True/\True/\True/\True)/\((hk=hk/\cs=cs/\f=f/\cl=cl/\(([]:List SV)=[]))/\((List.replicate (Int.toNat (lI cs)) (0:Int))=d40.1/\(([]:List SV)=[]))/\(True/\(([]:List SV)=[]))/\([(List.replicate (Int.toNat (lI cs)) (0:Int))]=d40.2/\false=false)/\True)) /\
 Q39 (List.length cl) (λ(k4:Nat) (d4:(List Int)×(List (List Int))) (q4:((List Int)×(List (List Int)))->Prop)=>∀ w4:List Value,
  ([(1048576:Int)].length<=1000/\0<=(lI cs)/\(lI cs)<=1000)/\∃ (e7:(List Int)×(List (List Int))×Int×(List Value)) (d70:(List Int)×Int),((True/\True/\True/\((lI cl)-1-(k4:Int))=e7.2.2.1/\True/\(lI (Np [(1048576:Int)] (lI cs).toNat))=(lI (Np [(1048576:Int)] (lI cs).toNat))/\(0:Int)=d70.2/\True)/\((hk=hk/\cs=cs/\f=f/\cl=cl/\(([]:List SV)=[]))/\(d4.1=e7.1/\(([]:List SV)=[]))/\(True/\(([]:List SV)=[]))/\(d4.2=e7.2.1/\false=false)/\((Np [(1048576:Int)] (lI cs).toNat)=d70.1/\false=false)/\(e7.2.2.2=w4/\(True/\True/\True/\True/\True/\True/\True/\True/\True/\True/\True/\True/\True/\True/\True/\True/\True/\True/\True/\True/\True/\True/\True/\True/\True/\True/\True/\True/\True/\True/\True/\True/\True/\True/\True/\True/\True/\True/\True/\True/\True/\True/\True/\True/\True/\True/\True/\True/\True/\True/\True/\True/\True/\True/\True/\True/\True/\True/\True/\True/\True/\True/\True/\True/\True/\True/\True/\True/\True/\True/\(([]:List SV)=[])))/\True)) /\
  LoopP (λ(d7:(List Int)×Int) (q7:((List Int)×Int)->Prop) =>
   ((decide (d7.2<(lI (Np [(1048576:Int)] (lI cs).toNat))))=true ->
    ∃ (aD:(List Int)×(List (List Int))×Int×Int×Int×(List Value)) (d100:(List Int)×Int),((True/\True/\True/\e7.2.2.1=aD.2.2.1/\True/\d7.2=aD.2.2.2.1/\(lI (Np [(1048576:Int)] (lI cs).toNat))=(lI (Np [(1048576:Int)] (lI cs).toNat))/\d7.2=(pj4 aD).1/\(0:Int)=d100.2/\True)/\((hk=hk/\cs=cs/\f=f/\cl=cl/\(([]:List SV)=[]))/\(e7.1=aD.1/\(([]:List SV)=[]))/\(True/\(([]:List SV)=[]))/\(e7.2.1=aD.2.1/\false=false)/\(d7.1=d100.1/\false=false)/\((pj4 aD).2=e7.2.2.2/\(True/\True/\True/\True/\True/\True/\True/\True/\True/\True/\True/\True/\True/\True/\True/\True/\True/\True/\True/\True/\True/\True/\True/\True/\True/\True/\True/\True/\True/\True/\True/\True/\True/\True/\True/\True/\True/\True/\True/\True/\True/\True/\True/\True/\True/\True/\True/\True/\True/\True/\True/\True/\True/\True/\True/\True/\True/\True/\True/\True/\True/\True/\True/\True/\True/\True/\True/\True/\True/\True/\(([]:List SV)=[])))/\True)) /\
    LoopP (λ(d10:(List Int)×Int) (mM:((List Int)×Int)->Prop) =>
     ((decide (d10.2<(3:Int)))=true ->
      (1<=f/\f<=24/\0<=aD.2.2.1/\aD.2.2.1<cl.length/\0<=aD.2.2.2.1/\aD.2.2.2.1<cs.length/\∀ c∈cs,Zk f c=true)/\((wvB f cs cl aD.2.2.1.toNat aD.2.2.2.1)=true ->
       (0<=aD.2.2.2.1)/\(aD.2.2.2.1<(List.length d10.1))/\(True)/\(cs≠[]/\cs.length<=1000/\-1000000<=aD.2.2.2.1/\aD.2.2.2.1<=1000000/\-1000000<=d10.2/\d10.2<=1000000)/\(0<=(Int.tmod (aD.2.2.2.1+d10.2) cs.length))/\((Int.tmod (aD.2.2.2.1+d10.2) cs.length)<(List.length aD.1))/\(I64 ((if d10.2=1 then 0 else 1)+(gD aD.1 (Int.tmod (aD.2.2.2.1+d10.2) cs.length) 0)))/\(0<=aD.2.2.2.1)/\(aD.2.2.2.1<(List.length d10.1))/\(I64 (d10.2+(1:Int)))/\(∃ d11:(List Int)×Int,((True/\True/\True/\aD.2.2.1=aD.2.2.1/\True/\aD.2.2.2.1=aD.2.2.2.1/\(lI (Np [(1048576:Int)] (lI cs).toNat))=(lI (Np [(1048576:Int)] (lI cs).toNat))/\(pj4 aD).1=(pj4 aD).1/\(d10.2+(1:Int))=d11.2/\True)/\((hk=hk/\cs=cs/\f=f/\cl=cl/\(([]:List SV)=[]))/\(aD.1=aD.1/\(([]:List SV)=[]))/\(True/\(([]:List SV)=[]))/\(aD.2.1=aD.2.1/\false=false)/\((sT d10.1 aD.2.2.2.1 (DB (gD d10.1 aD.2.2.2.1 0) ((if d10.2=1 then 0 else 1)+(gD aD.1 (Int.tmod (aD.2.2.2.1+d10.2) cs.length) 0))))=d11.1/\false=false)/\((pj4 aD).2=(pj4 aD).2/\(True/\True/\True/\True/\True/\True/\True/\True/\True/\True/\True/\True/\True/\True/\True/\True/\True/\True/\True/\True/\True/\True/\True/\True/\True/\True/\True/\True/\True/\True/\True/\True/\True/\True/\True/\True/\True/\True/\True/\True/\True/\True/\True/\True/\True/\True/\True/\True/\True/\True/\True/\True/\True/\True/\True/\True/\True/\True/\True/\True/\True/\True/\True/\True/\True/\True/\True/\True/\True/\True/\(([]:List SV)=[])))/\True))/\mM d11)) /\
      ((wvB f cs cl aD.2.2.1.toNat aD.2.2.2.1)=false ->
       (I64 (d10.2+(1:Int)))/\(∃ d12:(List Int)×Int,((True/\True/\True/\aD.2.2.1=aD.2.2.1/\True/\aD.2.2.2.1=aD.2.2.2.1/\(lI (Np [(1048576:Int)] (lI cs).toNat))=(lI (Np [(1048576:Int)] (lI cs).toNat))/\(pj4 aD).1=(pj4 aD).1/\(d10.2+(1:Int))=d12.2/\True)/\((hk=hk/\cs=cs/\f=f/\cl=cl/\(([]:List SV)=[]))/\(aD.1=aD.1/\(([]:List SV)=[]))/\(True/\(([]:List SV)=[]))/\(aD.2.1=aD.2.1/\false=false)/\(d10.1=d12.1/\false=false)/\((pj4 aD).2=(pj4 aD).2/\(True/\True/\True/\True/\True/\True/\True/\True/\True/\True/\True/\True/\True/\True/\True/\True/\True/\True/\True/\True/\True/\True/\True/\True/\True/\True/\True/\True/\True/\True/\True/\True/\True/\True/\True/\True/\True/\True/\True/\True/\True/\True/\True/\True/\True/\True/\True/\True/\True/\True/\True/\True/\True/\True/\True/\True/\True/\True/\True/\True/\True/\True/\True/\True/\True/\True/\True/\True/\True/\True/\(([]:List SV)=[])))/\True))/\mM d12))) /\
     ((decide (d10.2<(3:Int)))=false ->
      (I64 ((pj4 aD).1+(1:Int)))/\(∃ d13:(List Int)×Int,((True/\True/\True/\aD.2.2.1=e7.2.2.1/\True/\(lI (Np [(1048576:Int)] (lI cs).toNat))=(lI (Np [(1048576:Int)] (lI cs).toNat))/\((pj4 aD).1+(1:Int))=d13.2/\True)/\((hk=hk/\cs=cs/\f=f/\cl=cl/\(([]:List SV)=[]))/\(aD.1=e7.1/\(([]:List SV)=[]))/\(True/\(([]:List SV)=[]))/\(aD.2.1=e7.2.1/\false=false)/\(d10.1=d13.1/\false=false)/\(e7.2.2.2=(pj4 aD).2/\(True/\True/\True/\True/\True/\True/\True/\True/\True/\True/\True/\True/\True/\True/\True/\True/\True/\True/\True/\True/\True/\True/\True/\True/\True/\True/\True/\True/\True/\True/\True/\True/\True/\True/\True/\True/\True/\True/\True/\True/\True/\True/\True/\True/\True/\True/\True/\True/\True/\True/\True/\True/\True/\True/\True/\True/\True/\True/\True/\True/\True/\True/\True/\True/\True/\True/\True/\True/\True/\True/\(([]:List SV)=[])))/\True))/\q7 d13))) d100) /\
   ((decide (d7.2<(lI (Np [(1048576:Int)] (lI cs).toNat))))=false ->
    (((List.length e7.2.1)+(List.length [d7.1]))*24<=70368744177664)/\e7.2.2.2=w4/\(∃ d14:(List Int)×(List (List Int)),((True/\True/\True/\True)/\((hk=hk/\cs=cs/\f=f/\cl=cl/\(([]:List SV)=[]))/\(d7.1=d14.1/\(([]:List SV)=[]))/\(True/\(([]:List SV)=[]))/\((e7.2.1++[d7.1])=d14.2/\false=false)/\True))/\q4 d14))) d70)
 (λ(d15:(List Int)×(List (List Int))) =>
  (d15.2.length<=1000000)/\(True/\(((List.reverse d15.2)=(Qf hk cs cl)/\false=false)/\True))) d40
def Wk:Cx:=⟨[(3,(.i .i64)),(27,(.list (.i .i64)))],[(115,Jp),(116,Zb),(77,Wg),(78,ZK)],70,[16,65,66],0,[(114,Xj),(117,ZH)],[(143,Z1r (.i .i64))],[(27,3)],[],false,[],[],[],[]⟩
def W4 (hk:Int) (cs:List (Int×Int×Bool)) (f:Int) (cl:List Int):List (Nat×LoopAnn):=[(0,⟨Unit,(List Int)×(List (List Int)),[1,3,4],λe x=>[.box 1 0,.box 3 0,.box 4 0],λe x=>[(1,.slot 1,.cells [.val (.i .i64) hk,.val (.list (.pair (.i .i64) (.pair (.i .i64) .bo))) cs,.val (.i .i64) f,.val (.list (.i .i64)) cl] (some 134)),(3,.slot 3,.cells [.val (.list (.i .i64)) x.1] (some 27)),(4,.slot 4,.cells [.lst 16] (some 61)),(16,.cell 4 0,.lst 27 (.list (.i .i64)) x.2 false)]⟩),
 (2,⟨(List Int)×(List (List Int))×Int×(List Value),(List Int)×Int,[1,3,4,5,6,30,31],λe x=>[.box 1 0,.box 3 0,.box 4 0,.val (.i .i64) e.2.2.1,.lst 28,.val (.i .i64) (((List.length (Np [(1048576:Int)] (((List.length cs):Nat):Int).toNat)):Nat):Int),.val (.i .i64) x.2],λe x=>[(1,.slot 1,.cells [.val (.i .i64) hk,.val (.list (.pair (.i .i64) (.pair (.i .i64) .bo))) cs,.val (.i .i64) f,.val (.list (.i .i64)) cl] (some 134)),(3,.slot 3,.cells [.val (.list (.i .i64)) e.1] (some 27)),(4,.slot 4,.cells [.lst 16] (some 61)),(16,.cell 4 0,.lst 27 (.list (.i .i64)) e.2.1 false),(28,.slot 6,.lst 3 (.i .i64) x.1 false),(2000000,.key 2000000,.stk [.any,.box 1 0,.any,.box 3 0,.box 4 0,.any,.any,.any,.any,.any,.any,.any,.any,.any,.any,.any,.any,.any,.any,.any,.any,.any,.any,.any,.any,.any,.any,.any,.any,.any,.any,.any,.any,.any,.any,.any,.any,.any,.any,.any,.any,.any,.any,.any,.any,.any,.any,.any,.any,.any,.any,.any,.any,.any,.any,.any,.any,.any,.any,.any,.any,.any,.any,.any,.any,.any,.any,.any,.any,.any] e.2.2.2)]⟩),
 (4,⟨(List Int)×(List (List Int))×Int×Int×Int×(List Value),(List Int)×Int,[1,3,4,5,6,7,30,31,34],λe x=>[.box 1 0,.box 3 0,.box 4 0,.val (.i .i64) e.2.2.1,.lst 28,.val (.i .i64) e.2.2.2.1,.val (.i .i64) (((List.length (Np [(1048576:Int)] (((List.length cs):Nat):Int).toNat)):Nat):Int),.val (.i .i64) e.2.2.2.2.1,.val (.i .i64) x.2],λe x=>[(1,.slot 1,.cells [.val (.i .i64) hk,.val (.list (.pair (.i .i64) (.pair (.i .i64) .bo))) cs,.val (.i .i64) f,.val (.list (.i .i64)) cl] (some 134)),(3,.slot 3,.cells [.val (.list (.i .i64)) e.1] (some 27)),(4,.slot 4,.cells [.lst 16] (some 61)),(16,.cell 4 0,.lst 27 (.list (.i .i64)) e.2.1 false),(28,.slot 6,.lst 3 (.i .i64) x.1 false),(2000000,.key 2000000,.stk [.any,.box 1 0,.any,.box 3 0,.box 4 0,.any,.any,.any,.any,.any,.any,.any,.any,.any,.any,.any,.any,.any,.any,.any,.any,.any,.any,.any,.any,.any,.any,.any,.any,.any,.any,.any,.any,.any,.any,.any,.any,.any,.any,.any,.any,.any,.any,.any,.any,.any,.any,.any,.any,.any,.any,.any,.any,.any,.any,.any,.any,.any,.any,.any,.any,.any,.any,.any,.any,.any,.any,.any,.any,.any] e.2.2.2.2.2)]⟩)]
theorem U0 (d:Int×(List (Int×Int×Bool))×Int×List Int):gwp (Wk) (W4 d.1 d.2.1 d.2.2.1 d.2.2.2) c74 0 (Vv [.tmp 2] (XK d) (XN d)) (Qw 70 (AL.can Wf d))=Ze d.1 d.2.1 d.2.2.1 d.2.2.2:=by kernel_rfl
def Jz:XSp:=callV Nj UX
abbrev U5:Prop:=XOk Tryz.prog 74 Jz
theorem Uf (h:∀ (hk:Int) (cs:List (Int×Int×Bool)) (f:Int) (cl:List Int),(f=hk/\Z1 hk cs=0/\cl.length<=60/\(∀ r∈cl,-1<=r/\r<2 ^ hk.toNat))->Ze hk cs f cl):XOk Tryz.prog 74 Jz :=
 OV Q5e mixed Ku (C:=Wk) ⟨(.cons VB (.cons XI (.cons Vh (.cons XB .nil)))),(XsOk.cons K5 (XsOk.cons YH XsOk.nil)),(ItsOk.cons (Z3j OH mixed) ItsOk.nil),YlOk.nil,IysOk.nil,XfOk.nil⟩ (L:=λ(d:Int×(List (Int×Int×Bool))×Int×List Int)=>W4 d.1 d.2.1 d.2.2.1 d.2.2.2) (V:=λ(d:Int×(List (Int×Int×Bool))×Int×List Int)=>Ze d.1 d.2.1 d.2.2.1 d.2.2.2) (U0) λd hp=>h d.1 d.2.1 d.2.2.1 d.2.2.2 hp
set_option maxHeartbeats 2000000 in
theorem Vz:U5:=Uf λhk cs f cl h=>by
 obtain⟨hf,hb,cg,b8⟩:=h;subst hf;obtain⟨b1,b2,b3,b4⟩:=Vp hb;have hn:0<cs.length:=xC.2 b3;unfold Ze;(try delta lI gD sT I64 NF pj8 pj4);obtain⟨W,hW⟩:∃ W:Nat->Int->Bool,W=λk=>wvB f cs cl k:=⟨_,rfl⟩;have rP:∀ k a,wvB f cs cl k a=W k a:=λk a=>by rw[hW]
 have hL:Qf f cs cl=((List.range (cl.length+1)).map λk=>QO cs.length W cl.length k).reverse:=by rw[hW];rfl
 have e0:List.replicate (Int.toNat (cs.length:Int)) (0:Int)=QO cs.length W cl.length 0:=by rw[zw];rfl
 have e1:Np [(1048576:Int)] (cs.length:Int).toNat=List.replicate cs.length 1048576:=by rw[OT,zw]
 simp only[e0,e1,rP,hL,true_and,and_true,xV];clear e0 e1 hL;refine⟨by omega,by omega,by omega,by omega,λw1=>?_⟩;refine⟨by omega,(),(QO cs.length W cl.length 0,[QO cs.length W cl.length 0]),(by and_intros<;>first|rfl|trivial|simp),?_⟩;refine⟨λk d=>k<=cl.length/\d=(QO cs.length W cl.length k,(List.range (k+1)).map λk=>QO cs.length W cl.length k),⟨Nat.zero_le _,rfl⟩,?_,?_⟩
 .rintro k _ hk ⟨av,rfl⟩ w4;dsimp only;refine⟨⟨by simp,by omega,by omega⟩,?_⟩;have ep:(cl.length:Int)-1-(k:Int)=((cl.length-1-k:Nat):Int):=by omega
  refine⟨(QO cs.length W cl.length k,(List.range (k+1)).map λk=>QO cs.length W cl.length k,((cl.length-1-k:Nat):Int),w4),(List.replicate cs.length 1048576,0),by and_intros<;>first|rfl|trivial|exact ep,?_⟩;rw[<-Fs cs.length (W (cl.length-1-k)) (QO cs.length W cl.length k)];refine LoopP.count2 cs.length (λi x=>x=BZ cs.length (W (cl.length-1-k)) (QO cs.length W cl.length k) i 0) rfl ?_;rintro i _ hi rfl q hq;dsimp only;refine⟨λc=>?_,λc=>?_⟩
  .have hi:i<cs.length:=by simp at c;omega
   refine⟨(QO cs.length W cl.length k,(List.range (k+1)).map λk=>QO cs.length W cl.length k,((cl.length-1-k:Nat):Int),(i:Int),(i:Int),w4),(BZ cs.length (W (cl.length-1-k)) (QO cs.length W cl.length k) i 0,0),(by and_intros<;>first|rfl|trivial|simp),?_⟩;refine LoopP.count2 3 (λt x=>x=BZ cs.length (W (cl.length-1-k)) (QO cs.length W cl.length k) i t) rfl ?_;rintro t _ ht rfl q2 nh;dsimp only;refine⟨λc=>?_,λc=>?_⟩
   .have ht:t<3:=by simp at c;omega
    have lj:=EI hn (a:=(i:Int)) (s:=(t:Int)) (by omega) (by omega);have hl:=YM cs.length W cl.length k;have m9:=Ps cs.length W cl.length k (nxC cs.length (i:Int) (t:Int)).toNat;have sV:=S6 (t:Int);refine⟨⟨b1.1,b1.2,by omega,by omega,by omega,by omega,b4⟩,λc2=>?_,λc2=>?_⟩
    .rw[zw] at c2;refine⟨by omega,by rw[RF];omega,⟨b3,by omega,by omega,by omega,by omega,by omega⟩,lj.1,by rw[hl];exact lj.2,?_,by omega,by rw[RF];omega,by rw[Qm];omega,?_⟩
     .rw[Qm];show _<=ftC t+(QO cs.length W cl.length k).getD (nxC cs.length (i:Int) (t:Int)).toNat 0/\ftC t+(QO cs.length W cl.length k).getD (nxC cs.length (i:Int) (t:Int)).toNat 0<=_;omega
     .refine⟨(BZ cs.length (W (cl.length-1-k)) (QO cs.length W cl.length k) i (t+1),(t:Int)+1),?_,nh _ ht rfl⟩;have es:(BZ cs.length (W (cl.length-1-k)) (QO cs.length W cl.length k) i t).set i (DB ((BZ cs.length (W (cl.length-1-k)) (QO cs.length W cl.length k) i t).getD i 0) (ftC t+(QO cs.length W cl.length k).getD (nxC cs.length (i:Int) (t:Int)).toNat 0))=BZ cs.length (W (cl.length-1-k)) (QO cs.length W cl.length k) i (t+1):=by
       rw[OA _ _ _ hi,<-Ol];rw[show pvC cs.length (W (cl.length-1-k) (i:Int)) (QO cs.length W cl.length k) i (t+1)=if W (cl.length-1-k) (i:Int)=true then DB (pvC cs.length (W (cl.length-1-k) (i:Int)) (QO cs.length W cl.length k) i t) (ftC t+(QO cs.length W cl.length k).getD (nxC cs.length i t).toNat 0) else pvC cs.length (W (cl.length-1-k) (i:Int)) (QO cs.length W cl.length k) i t from rfl,z8 c2]
      rw[zw];and_intros<;>first|rfl|trivial|exact es
    .rw[zw] at c2;refine⟨by rw[Qm];omega,(BZ cs.length (W (cl.length-1-k)) (QO cs.length W cl.length k) i (t+1),(t:Int)+1),?_,nh _ ht rfl⟩;have es:=Ia (n:=cs.length) (W (cl.length-1-k)) (QO cs.length W cl.length k) t c2;and_intros<;>first|rfl|trivial|exact es
   .obtain rfl:t=3:=by simp at c;omega
    refine⟨by rw[Qm];omega,(BZ cs.length (W (cl.length-1-k)) (QO cs.length W cl.length k) (i+1) 0,(i:Int)+1),?_,hq _ hi rfl⟩;have es:=IF cs.length (W (cl.length-1-k)) (QO cs.length W cl.length k) i;and_intros<;>first|rfl|trivial|exact es
  .obtain rfl:i=cs.length:=by simp at c;omega
   rw[Q0i];refine⟨by simp;omega,?_⟩;have e2:((List.range (k+1)).map λk=>QO cs.length W cl.length k)++[OX cs.length (W (cl.length-1-k)) (QO cs.length W cl.length k)]=(List.range (k+1+1)).map λk=>QO cs.length W cl.length k:=by rw[List.range_succ (n:=k+1),xQ];rfl
   refine⟨rfl,(QO cs.length W cl.length (k+1),(List.range (k+1+1)).map λk=>QO cs.length W cl.length k),?_,hk,rfl⟩;and_intros<;>first|rfl|trivial|exact e2
 .rintro _ ⟨_,rfl⟩;dsimp only;refine⟨by simp;omega,?_⟩;and_intros<;>first|rfl|trivial
theorem Mg:∀ {l m:List Nat},l.Nodup->(∀ x∈l,x∈m)->l.length<=m.length
 |[],_,_,_=>Nat.zero_le _
 |x::l,m,hn,hs=>by rw[xr] at hn;have hx:x∈m:=hs x (zq ..);have:=Mg (l:=l) (m:=m.erase x) hn.2 λy hy=>(List.mem_erase_of_ne (by rintro rfl;exact hn.1 hy)).2 (hs y (zi _ hy));rw[List.length_erase_of_mem hx] at this;have:=List.length_pos_of_mem hx;rw[xi];omega
theorem DK {dn:List Nat}{r:Nat}(h:dn.Nodup) (hr:r∉dn):(dn++[r]).Nodup :=
 List.nodup_append.2 ⟨h,List.pairwise_singleton _ _,λa ha b hb e=>by rw[zp] at hb;subst hb;subst e;exact hr ha⟩
theorem LoopP.rng {X:Type}{F:X×List Nat->(X×List Nat->Prop)->Prop}(n:Nat) (J:X->List Nat->Prop) {x0:X}(h0:J x0 [])
  (hr:∀ (x:X) (dn:List Nat),dn.Nodup->(∀ r∈dn,r<n)->J x dn->∀ q:X×List Nat->Prop,(∀ (r:Nat) (x':X),r<n->r∉dn->J x' (dn++[r])->q (x',dn++[r]))->F (x,dn) q):LoopP F (x0,[]):=by
 refine⟨λd=>d.2.Nodup/\(∀ r∈d.2,r<n)/\J d.1 d.2,λd=>n-d.2.length,⟨List.nodup_nil,(λr hr=>by cases hr),h0⟩,λ⟨x,dn⟩ ⟨h1,h2,h3⟩=>?_⟩;have h1:dn.Nodup:=h1;refine hr x dn h1 h2 h3 _ λr x' ah gv hJ=>?_;have hn:=DK h1 gv;have hb:∀ y∈dn++[r],y<n:=λy hy=>by
  rcases zQ.1 hy with h|h
  .exact h2 y h
  .rw[zp] at h;omega
 refine⟨⟨hn,hb,hJ⟩,?_⟩;have:=Mg hn (m:=List.range n) λy hy=>zF.2 (hb y hy);rw[wL,zJ,xp] at this;have e:(dn++[r]).length=dn.length+1:=by simp
 show n-(dn++[r]).length<n-dn.length;omega
theorem Z3p {b e:Nat}(hb:b<=121) (he:e<=6):b ^ e<=3138428376721:=by
 have h1:b ^ e<=121 ^ e:=Nat.pow_le_pow_left hb e;have h2:121 ^ e<=121 ^ 6:=Nat.pow_le_pow_right (by omega) he;have h3:121 ^ 6=3138428376721:=by decide
 omega
theorem Q7h {n mo:Nat}(wv:Nat->Int->Bool) (hn:0<n) (iw:mo<=6) {k:Nat}(hk:k<=60) (q:Int×Int):0<=wyK n mo wv k q/\wyK n mo wv k q<=4000000000000000:=by
 refine⟨QW n mo wv k q,?_⟩;by_cases hz:wyK n mo wv k q=0
 .omega
 .have hg:=Zi.1 (H7 n mo wv hn k q hz);have h1:=SJ (n:=n) (mo:=mo) wv hn k q hg.2.1;have h2:=Z3p (b:=2*k+1) (e:=q.2.toNat) (by omega) (by omega);omega
def Q5i (k:Nat) (q:Int×Int):Int:=if 0<=q.1/\q.1<(k:Int)/\q.2=0 then 1 else 0
theorem Ox {n mo:Nat}{m:List ((Int×Int)×Int)}{k:Nat}(h:MapW n mo m (Q5i k)) (hk:k<n):MapW n mo (Nz m ((k:Int),0) 1) (Q5i (k+1)):=by
 have hg:XA m ((k:Int),0)=0:=by rw[h.get];unfold Q5i;rw[zd (by dsimp only;omega)]
 have:=h.add (λq=>by unfold Q5i;split<;>omega) (k:=((k:Int),0)) (w:=1) (by omega) (by rw[Zi];dsimp only;omega);rw[hg] at this;refine this.congr λq=>?_;unfold Q5i;by_cases e:q=((k:Int),0)
 .subst e;rw[zd (by dsimp only;omega),z8 rfl,z8 (by dsimp only;omega)];rfl
 .rw[zd e];have:¬ (q.1=k/\q.2=0):=λh=>e (Prod.ext h.1 h.2);by_cases c:0<=q.1/\q.1<(k:Int)/\q.2=0
  .rw[z8 c,z8 (by omega)];rfl
  .rw[zd c,zd (by omega)];rfl
def Q4n (n mo:Nat) (wv:Int->Bool) (m:List ((Int×Int)×Int)) (dn:List Nat) (q:Int×Int):Int:=(dn.map λr=>BE n mo wv (m.getD r ((0,0),0)).1 (m.getD r ((0,0),0)).2 q).sum
theorem L8 (n mo:Nat) (wv:Int->Bool) (m:List ((Int×Int)×Int)) (dn:List Nat) (r:Nat) (q:Int×Int):Q4n n mo wv m (dn++[r]) q=Q4n n mo wv m dn q+BE n mo wv (m.getD r ((0,0),0)).1 (m.getD r ((0,0),0)).2 q:=by unfold Q4n;rw[TX];simp
theorem Q0u {n mo:Nat}{wv:Nat->Int->Bool}{k:Nat}{m:List ((Int×Int)×Int)}(h:MapW n mo m (wyK n mo wv k)) {dn:List Nat}(hn:dn.Nodup) (ah:∀ r∈dn,r<m.length) (q:Int×Int) :
  0<=Q4n n mo (wv k) m dn q/\Q4n n mo (wv k) m dn q<=wyK n mo wv (k+1) q/\((∀ r,r<m.length->r∈dn)->Q4n n mo (wv k) m dn q=wyK n mo wv (k+1) q):=by
 have bk:∀ x∈m,0<=BE n mo (wv k) x.1 x.2 q:=λx hx=>Kr (Int.le_of_lt (h.2.1 x hx).2.1);have h1:=Cp (d:=(((0,0),0):(Int×Int)×Int)) (F:=λx=>BE n mo (wv k) x.1 x.2 q) hn ah bk;have h2:=PA h (λp w=>BE n mo (wv k) p w q) λp=>by
  unfold BE N2;split
  .split<;>split<;>split<;>rfl
  .rfl
 have e:wyK n mo wv (k+1) q=((Z3 n mo).map λp=>BE n mo (wv k) p (wyK n mo wv k p) q).sum:=rfl;rw[e,<-h2];refine⟨XU λr hr=>?_,h1.1,h1.2⟩;have:=ah r hr;rw[Qh this];exact bk _ (zr this)
def Wj:AL ((Int×(List (Int×Int×Bool))×Int×List Int)×Int):=(.cons (.agg (.cons (.k (.i .i64)) (.cons (.k (.list (.pair (.i .i64) (.pair (.i .i64) .bo)))) (.cons (.k (.i .i64)) (.one (.k (.list (.i .i64)))))))) (.one (.k (.i .i64))))
def Ub (a:(Int×(List (Int×Int×Bool))×Int×List Int)×Int):Prop:=a.1.2.2.1=a.1.1/\Z1 a.1.1 a.1.2.1=0/\a.1.2.2.2.length<=60/\(∀ r∈a.1.2.2.2,-1<=r/\r<2 ^ a.1.1.toNat)/\0<=a.2/\a.2<=6
def Ug (a:(Int×(List (Int×Int×Bool))×Int×List Int)×Int):List SV:=[]
def XQ (a:(Int×(List (Int×Int×Bool))×Int×List Int)×Int) (m:List ((Int×Int)×Int)):Prop:=MapW a.1.2.1.length a.2.toNat m (wyK a.1.2.1.length a.2.toNat (λk=>wvB a.1.1 a.1.2.1 a.1.2.2.2 k) a.1.2.2.2.length)
def JU:XSp:=Q09 Nj (.pair (.i .i64) (.i .i64)) (.i .i64) (Q6f Wj Ub Ug XQ)
abbrev XZ (hk:Int) (cs:List (Int×Int×Bool)) (f:Int) (cl:List Int):=(hk=hk/\cs=cs/\f=f/\cl=cl/\(([]:List SV)=[]))
def Zx (hk:Int) (cs:List (Int×Int×Bool)) (f:Int) (cl:List Int) (mo:Int):Prop :=
 ∃ (e3:Unit) (d30:(List ((Int×Int)×Int))×Int),((mo=mo/\True/\True/\(lI cs)=(lI cs)/\(0:Int)=d30.2/\True)/\((XZ hk cs f cl)/\(([]:List ((Int×Int)×Int))=d30.1)/\True)) /\
 LoopP (λ(d3:(List ((Int×Int)×Int))×Int) (q3:((List ((Int×Int)×Int))×Int)->Prop) =>
  ((decide (d3.2<(lI cs)))=true ->
   (I64 (d3.2+(1:Int)))/\(∃ d4:(List ((Int×Int)×Int))×Int,((mo=mo/\True/\True/\(lI cs)=(lI cs)/\(d3.2+(1:Int))=d4.2/\True)/\((XZ hk cs f cl)/\((PT (.pair (.i .i64) (.i .i64)) d3.1 (d3.2,(0:Int)) (1:Int))=d4.1)/\True))/\q3 d4)) /\
  ((decide (d3.2<(lI cs)))=false ->
   ∃ (e7:Unit) (d70:(List ((Int×Int)×Int))×Int),((mo=mo/\True/\True/\(lI cl)=(lI cl)/\(0:Int)=d70.2/\True)/\((XZ hk cs f cl)/\(d3.1=d70.1)/\True)) /\
   LoopP (λ(d7:(List ((Int×Int)×Int))×Int) (q7:((List ((Int×Int)×Int))×Int)->Prop) =>
    ((decide (d7.2<(lI cl)))=true ->
     ∃ (aD:Int×Int×(List ((Int×Int)×Int))) (d100:(List ((Int×Int)×Int))×(List Nat)),((mo=mo/\True/\d7.2=aD.1/\True/\(lI cl)=(lI cl)/\d7.2=aD.2.1/\True/\True)/\((XZ hk cs f cl)/\(([]:List ((Int×Int)×Int))=d100.1)/\(d7.1=aD.2.2/\([]:List Nat)=d100.2)/\True)) /\
     LoopP (λ(d10:(List ((Int×Int)×Int))×(List Nat)) (mM:((List ((Int×Int)×Int))×(List Nat))->Prop) =>
      ((∀ r:Nat,r<(List.length aD.2.2)->r∈d10.2) ->
       (false=true ->
        (d10.2≠[])/\(1<=f/\f<=24/\0<=aD.1/\aD.1<cl.length/\0<=((List.getD aD.2.2 (List.getLastD d10.2 0) ((0,0),0)).1.1)/\((List.getD aD.2.2 (List.getLastD d10.2 0) ((0,0),0)).1.1)<cs.length/\∀ c∈cs,Zk f c=true)/\((wvB f cs cl aD.1.toNat ((List.getD aD.2.2 (List.getLastD d10.2 0) ((0,0),0)).1.1))=true ->
         (0<=((List.getD aD.2.2 (List.getLastD d10.2 0) ((0,0),0)).1.1)/\((List.getD aD.2.2 (List.getLastD d10.2 0) ((0,0),0)).1.1)<cs.length/\cs.length<=60/\0<=((List.getD aD.2.2 (List.getLastD d10.2 0) ((0,0),0)).1.2)/\((List.getD aD.2.2 (List.getLastD d10.2 0) ((0,0),0)).1.2)<=6/\0<=mo/\mo<=6/\0<=((List.getD aD.2.2 (List.getLastD d10.2 0) ((0,0),0)).2)/\((List.getD aD.2.2 (List.getLastD d10.2 0) ((0,0),0)).2)<=4000000000000000/\∀ q,0<=XA d10.1 q/\XA d10.1 q<=4000000000000000)/\(∀ sW:List ((Int×Int)×Int),(sW=Q6a cs.length mo (((List.getD aD.2.2 (List.getLastD d10.2 0) ((0,0),0)).1.1),((List.getD aD.2.2 (List.getLastD d10.2 0) ((0,0),0)).1.2)) ((List.getD aD.2.2 (List.getLastD d10.2 0) ((0,0),0)).2) d10.1)->(∃ d13:(List ((Int×Int)×Int))×(List Nat),((mo=mo/\True/\aD.1=aD.1/\True/\(lI cl)=(lI cl)/\aD.2.1=aD.2.1/\True/\True)/\((XZ hk cs f cl)/\(sW=d13.1)/\(aD.2.2=aD.2.2/\d10.2=d13.2)/\True))/\mM d13))) /\
        ((wvB f cs cl aD.1.toNat ((List.getD aD.2.2 (List.getLastD d10.2 0) ((0,0),0)).1.1))=false ->
         (∃ d14:(List ((Int×Int)×Int))×(List Nat),((mo=mo/\True/\aD.1=aD.1/\True/\(lI cl)=(lI cl)/\aD.2.1=aD.2.1/\True/\True)/\((XZ hk cs f cl)/\(d10.1=d14.1)/\(aD.2.2=aD.2.2/\d10.2=d14.2)/\True))/\mM d14))) /\
       (false=false ->
        (I64 (aD.2.1+(1:Int)))/\(∃ d15:(List ((Int×Int)×Int))×Int,((mo=mo/\True/\True/\(lI cl)=(lI cl)/\(aD.2.1+(1:Int))=d15.2/\True)/\((XZ hk cs f cl)/\(d10.1=d15.1)/\True))/\q7 d15))) /\
      (∀ fG:Nat,fG<(List.length aD.2.2)->fG∉d10.2 ->
       (true=true ->
        ((d10.2++[fG])≠[])/\(1<=f/\f<=24/\0<=aD.1/\aD.1<cl.length/\0<=((List.getD aD.2.2 (List.getLastD (d10.2++[fG]) 0) ((0,0),0)).1.1)/\((List.getD aD.2.2 (List.getLastD (d10.2++[fG]) 0) ((0,0),0)).1.1)<cs.length/\∀ c∈cs,Zk f c=true)/\((wvB f cs cl aD.1.toNat ((List.getD aD.2.2 (List.getLastD (d10.2++[fG]) 0) ((0,0),0)).1.1))=true ->
         (0<=((List.getD aD.2.2 (List.getLastD (d10.2++[fG]) 0) ((0,0),0)).1.1)/\((List.getD aD.2.2 (List.getLastD (d10.2++[fG]) 0) ((0,0),0)).1.1)<cs.length/\cs.length<=60/\0<=((List.getD aD.2.2 (List.getLastD (d10.2++[fG]) 0) ((0,0),0)).1.2)/\((List.getD aD.2.2 (List.getLastD (d10.2++[fG]) 0) ((0,0),0)).1.2)<=6/\0<=mo/\mo<=6/\0<=((List.getD aD.2.2 (List.getLastD (d10.2++[fG]) 0) ((0,0),0)).2)/\((List.getD aD.2.2 (List.getLastD (d10.2++[fG]) 0) ((0,0),0)).2)<=4000000000000000/\∀ q,0<=XA d10.1 q/\XA d10.1 q<=4000000000000000)/\(∀ sX:List ((Int×Int)×Int),(sX=Q6a cs.length mo (((List.getD aD.2.2 (List.getLastD (d10.2++[fG]) 0) ((0,0),0)).1.1),((List.getD aD.2.2 (List.getLastD (d10.2++[fG]) 0) ((0,0),0)).1.2)) ((List.getD aD.2.2 (List.getLastD (d10.2++[fG]) 0) ((0,0),0)).2) d10.1)->(∃ d17:(List ((Int×Int)×Int))×(List Nat),((mo=mo/\True/\aD.1=aD.1/\True/\(lI cl)=(lI cl)/\aD.2.1=aD.2.1/\True/\True)/\((XZ hk cs f cl)/\(sX=d17.1)/\(aD.2.2=aD.2.2/\(d10.2++[fG])=d17.2)/\True))/\mM d17))) /\
        ((wvB f cs cl aD.1.toNat ((List.getD aD.2.2 (List.getLastD (d10.2++[fG]) 0) ((0,0),0)).1.1))=false ->
         (∃ d18:(List ((Int×Int)×Int))×(List Nat),((mo=mo/\True/\aD.1=aD.1/\True/\(lI cl)=(lI cl)/\aD.2.1=aD.2.1/\True/\True)/\((XZ hk cs f cl)/\(d10.1=d18.1)/\(aD.2.2=aD.2.2/\(d10.2++[fG])=d18.2)/\True))/\mM d18))) /\
       (true=false ->
        (I64 (aD.2.1+(1:Int)))/\(∃ d19:(List ((Int×Int)×Int))×Int,((mo=mo/\True/\True/\(lI cl)=(lI cl)/\(aD.2.1+(1:Int))=d19.2/\True)/\((XZ hk cs f cl)/\(d10.1=d19.1)/\True))/\q7 d19)))) d100) /\
    ((decide (d7.2<(lI cl)))=false ->
     (MapW cs.length mo.toNat d7.1 (wyK cs.length mo.toNat (λk=>wvB hk cs cl k) cl.length)))) d70)) d30
def WN:Cx:=⟨[(1000011,(.pair (.pair (.i .i64) (.i .i64)) (.i .i64))),(1000030,(.pair (.pair (.i .i64) (.i .i64)) (.i .i64)))],[(116,Zb)],52,[],0,[(145,JW)],[],[],[],false,[],[],[],[]⟩
def WH (hk:Int) (cs:List (Int×Int×Bool)) (f:Int) (cl:List Int) (mo:Int):List (Nat×LoopAnn):=[(0,⟨Unit,(List ((Int×Int)×Int))×Int,[1,2,5,16,17],λe x=>[.val (.i .i64) mo,.box 2 0,.map 11,.val (.i .i64) (((List.length cs):Nat):Int),.val (.i .i64) x.2],λe x=>[(2,.slot 2,.cells [.val (.i .i64) hk,.val (.list (.pair (.i .i64) (.pair (.i .i64) .bo))) cs,.val (.i .i64) f,.val (.list (.i .i64)) cl] (some 134)),(11,.slot 5,.map (.pair (.i .i64) (.i .i64)) (.i .i64) x.1)]⟩),
 (2,⟨Unit,(List ((Int×Int)×Int))×Int,[1,2,5,26,27],λe x=>[.val (.i .i64) mo,.box 2 0,.map 11,.val (.i .i64) (((List.length cl):Nat):Int),.val (.i .i64) x.2],λe x=>[(2,.slot 2,.cells [.val (.i .i64) hk,.val (.list (.pair (.i .i64) (.pair (.i .i64) .bo))) cs,.val (.i .i64) f,.val (.list (.i .i64)) cl] (some 134)),(11,.slot 5,.map (.pair (.i .i64) (.i .i64)) (.i .i64) x.1)]⟩),
 (4,⟨Int×Int×(List ((Int×Int)×Int)),(List ((Int×Int)×Int))×(List Nat),[1,2,7,8,26,27,32],λe x=>[.val (.i .i64) mo,.box 2 0,.val (.i .i64) e.1,.map 30,.val (.i .i64) (((List.length cl):Nat):Int),.val (.i .i64) e.2.1,.box 32 0],λe x=>[(2,.slot 2,.cells [.val (.i .i64) hk,.val (.list (.pair (.i .i64) (.pair (.i .i64) .bo))) cs,.val (.i .i64) f,.val (.list (.i .i64)) cl] (some 134)),(30,.slot 8,.map (.pair (.i .i64) (.i .i64)) (.i .i64) x.1),(32,.slot 32,.iter (.pair (.i .i64) (.i .i64)) (.i .i64) e.2.2 x.2)]⟩)]
theorem N9 (a:(Int×(List (Int×Int×Bool))×Int×List Int)×Int):gwp WN (WH a.1.1 a.1.2.1 a.1.2.2.1 a.1.2.2.2 a.2) Z0i 0 (Q4v [.tmp 4] (.pair (.i .i64) (.i .i64)) (.i .i64) (XQ a)) (Yz 52 (AL.can Wj a))=Zx a.1.1 a.1.2.1 a.1.2.2.1 a.1.2.2.2 a.2:=by kernel_rfl
abbrev UP:Prop:=XOk Tryz.prog 118 JU
theorem Nf (h:∀ (hk:Int) (cs:List (Int×Int×Bool)) (f:Int) (cl:List Int) (mo:Int),(f=hk/\Z1 hk cs=0/\cl.length<=60/\(∀ r∈cl,-1<=r/\r<2 ^ hk.toNat)/\0<=mo/\mo<=6)->Zx hk cs f cl mo):XOk Tryz.prog 118 JU :=
 Q05 ED mixed Ku rfl (C:=WN) ⟨(.cons XI .nil),(XsOk.cons Ut XsOk.nil),ItsOk.nil,YlOk.nil,IysOk.nil,XfOk.nil⟩ (L:=λ(a:(Int×(List (Int×Int×Bool))×Int×List Int)×Int)=>WH a.1.1 a.1.2.1 a.1.2.2.1 a.1.2.2.2 a.2) (V:=λ(a:(Int×(List (Int×Int×Bool))×Int×List Int)×Int)=>Zx a.1.1 a.1.2.1 a.1.2.2.1 a.1.2.2.2 a.2) N9 λa hp=>h a.1.1 a.1.2.1 a.1.2.2.1 a.1.2.2.2 a.2 hp
theorem Ud:UP:=Nf λhk cs f cl mo h=>by
 obtain⟨h1,h2,h3,h4,h5,h6⟩:=h;subst h1;obtain⟨hf,cg,aB,ai⟩:=Vp h2;have bk:=xC.2 aB;unfold Zx;(try delta XZ);(try delta lI gD sT I64 NF pj8 pj4);refine⟨(),([],0),(by and_intros<;>first|rfl|trivial),?_⟩;refine LoopP.count2 cs.length (λk m=>MapW cs.length mo.toNat m (Q5i k)) ((MapW.nil _ _).congr λq=>by unfold Q5i;rw[zd (by omega)]) ?_;intro k m hk hm q hq;dsimp only;refine⟨λg=>?_,λg=>?_⟩
 .have g:k<cs.length:=by have:=xh g;omega
  refine⟨by simp only[Qm];omega,(Nz m ((k:Int),0) 1,(k:Int)+1),(by and_intros<;>first|rfl|trivial),hq _ g (Ox hm g)⟩
 .have g:k=cs.length:=by have:=xD g;omega
  subst g;refine⟨(),(m,0),(by and_intros<;>first|rfl|trivial),?_⟩;refine LoopP.count2 cl.length (λk m=>MapW cs.length mo.toNat m (wyK cs.length mo.toNat (λk=>wvB f cs cl k) k)) (hm.congr λq=>rfl) ?_;clear hm hq;intro k m hk hm q hq;dsimp only;refine⟨λg=>?_,λg=>?_⟩
  .have g:k<cl.length:=by have:=xh g;omega
   refine⟨((k:Int),(k:Int),m),([],[]),(by and_intros<;>first|rfl|trivial),?_⟩;refine LoopP.rng m.length (λx dn=>MapW cs.length mo.toNat x (Q4n cs.length mo.toNat (wvB f cs cl k) m dn)) ((MapW.nil _ _).congr λq=>rfl) ?_;intro x dn hn ah hx q' cS;dsimp only;refine⟨λae=>⟨(λc=>by cases c),λ_=>⟨by simp only[Qm];omega,(x,(k:Int)+1),(by and_intros<;>first|rfl|trivial),hq _ g ?_⟩⟩,λr hr gv=>⟨λ_=>?_,(λc=>by cases c)⟩⟩
   .exact hx.congr λq=>(Q0u (wv:=λk=>wvB f cs cl k) hm hn ah q).2.2 ae
   .have ez:List.getLastD (dn++[r]) 0=r:=by simp
    have aN:m[r]∈m:=zr hr;have he:=hm.2.1 _ aN;have mN:=Zi.1 he.2.2;have hW:=Q7h (n:=cs.length) (mo:=mo.toNat) (λk=>wvB f cs cl k) bk (by omega) (k:=k) (by omega) m[r].1;have pb:=λq=>Q0u (wv:=λk=>wvB f cs cl k) hm hn ah q;have rP:=λq=>Q7h (n:=cs.length) (mo:=mo.toNat) (λk=>wvB f cs cl k) bk (by omega) (k:=k+1) (by omega) q;simp only[ez,Qh hr,zw];refine⟨by simp,⟨hf.1,hf.2,by omega,by omega,mN.1.1,mN.1.2,ai⟩,λc=>⟨⟨mN.1.1,mN.1.2,cg,mN.2.1,by omega,h5,h6,by omega,by omega,λq=>?_⟩,λm' nk=>⟨(m',dn++[r]),(by and_intros<;>first|rfl|trivial),cS r m' hr gv ?_⟩⟩,λc=>⟨(x,dn++[r]),(by and_intros<;>first|rfl|trivial),cS r x hr gv ?_⟩⟩
    .rw[hx.get q];have:=pb q;have:=rP q;omega
    .subst nk;have iw:((mo.toNat:Nat):Int)=mo:=by omega
     have:=Q7c hx (λq=>(pb q).1) (p:=m[r].1) (w:=m[r].2) he.2.1 bk ⟨mN.1.1,mN.2.1⟩;rw[iw] at this;refine MapW.congr this λq=>?_;rw[L8,Qh hr];unfold BE;rw[z8 c,iw]
    .refine hx.congr λq=>?_;rw[L8,Qh hr];unfold BE;rw[zd (by rw[c];decide)];omega
  .have g:k=cl.length:=by have:=xD g;omega
   subst g;exact hm
def Jd (hk:Int) (cs:List UC) (cl:List Int) (fa:Int):Int:=((Z3 cs.length fa.toNat).map (wyK cs.length fa.toNat (λk=>wvB hk cs cl k) cl.length)).sum
theorem R0 (n mo:Nat):(Z3 n mo).length=n*(mo+1):=by
 unfold Z3;rw[List.length_flatMap];have:(λ(a:Nat)=>((List.range (mo+1)).map λ(f:Nat)=>(((a:Int),(f:Int)):Int×Int)).length)=λ_=>mo+1:=by funext a;simp
 rw[this];induction n with
 |zero=>simp
 |succ n ih=>rw[List.range_succ,xQ,List.sum_append,ih];simp[Nat.succ_mul]
theorem LB {α:Type}{f:α->Int}{B:Int}:∀ {l:List α},(∀ x∈l,f x<=B)->(l.map f).sum<=l.length*B
 |[],_=>by simp
 |x::l,h=>by
  have h1:=h x (zq ..);have h2:=LB (l:=l) λy hy=>h y (zi _ hy);rw[zE,xx,xi];have:((l.length+1:Nat):Int)*B=l.length*B+B:=by rw[Int.natCast_add,Int.add_mul];simp
  omega
theorem Q6t {n mo:Nat}(wv:Nat->Int->Bool) (hn:0<n) (dT:n<=60) (iw:mo<=6) {k:Nat}(hk:k<=60):((Z3 n mo).map (wyK n mo wv k)).sum<=420*3138428376721:=by
 have h1:=LB (l:=Z3 n mo) (f:=wyK n mo wv k) (B:=3138428376721) λq hq=>by have hg:=Zi.1 hq;have h1:=SJ (n:=n) (mo:=mo) wv hn k q hg.2.1;have h2:=Z3p (b:=2*k+1) (e:=q.2.toNat) (by omega) (by omega);omega
 rw[R0] at h1;have:n*(mo+1)<=60*7:=Nat.mul_le_mul dT (by omega);have:((n*(mo+1):Nat):Int)*3138428376721<=420*3138428376721:=Int.mul_le_mul_of_nonneg_right (by omega) (by omega);omega
def M5:AL ((Int×List (Int×Int×Bool))×List Int×Int):=(.cons (.agg (.cons (.k (.i .i64)) (.one (.k (.list (.pair (.i .i64) (.pair (.i .i64) .bo))))))) (.cons (.k (.list (.i .i64))) (.one (.k (.i .i64)))))
def Hv (a:(Int×List (Int×Int×Bool))×List Int×Int):Prop:=Z1 a.1.1 a.1.2=0/\a.2.1.length<=60/\(∀ r∈a.2.1,-1<=r/\r<2 ^ a.1.1.toNat)/\0<=a.2.2/\a.2.2<=6
def Nv (a:(Int×List (Int×Int×Bool))×List Int×Int):List SV:=[.val (.i .i64) (0:Int)]
def UA (a:(Int×List (Int×Int×Bool))×List Int×Int) (m:List ((Int×Int)×Int)):Prop:=MapW a.1.2.length a.2.2.toNat m (wyK a.1.2.length a.2.2.toNat (λk=>wvB a.1.1 a.1.2 a.2.1 k) a.2.1.length)
def YF:XSp:=OK Nj (.pair (.i .i64) (.i .i64)) (.i .i64) (Q6f M5 Hv Nv UA)
def Y3 (hk:Int) (cs:List (Int×Int×Bool)) (cl:List Int) (fa:Int):Prop :=
 ∀ w1:List Value,∀ w2:List Value,(True)/\((!(inI hk 1 24))=true ->
  w2=w2/\w1=w1/\False) /\
 ((!(inI hk 1 24))=false ->
  ((decide ((lI cs) > (60:Int)))=true ->
   w2=w2/\w1=w1/\False) /\
  ((decide ((lI cs) > (60:Int)))=false ->
   (1<=hk/\hk<=24/\cs.length<=1000000)/\((!(!cs.isEmpty&&!(cs.any λc=>!Zk hk c)))=true ->
    w2=w2/\w1=w1/\False) /\
   ((!(!cs.isEmpty&&!(cs.any λc=>!Zk hk c)))=false ->
    w2=w2/\((decide ((lI cl) > (60:Int)))=true ->
     w1=w1/\False) /\
    ((decide ((lI cl) > (60:Int)))=false ->
     (cl.length<=1000000/\∀ x∈cl,(λ(x1:Int)=>1<=hk/\hk<=24) x)/\((cl.any (λ(x1:Int)=>(decide (x1≠-1)&&!inI x1 0 (2 ^ hk.toNat-1))))=true ->
      w1=w1/\False) /\
     ((cl.any (λ(x1:Int)=>(decide (x1≠-1)&&!inI x1 0 (2 ^ hk.toNat-1))))=false ->
      w1=w1/\([fa].length<=1000000)/\((!(!([fa].any λn=>decide (n<(0:Int))||decide ((6:Int)<n))))=true ->
       False) /\
      ((!(!([fa].any λn=>decide (n<(0:Int))||decide ((6:Int)<n))))=false ->
       (hk=hk/\Z1 hk cs=0/\cl.length<=60/\(∀ r∈cl,-1<=r/\r<2 ^ hk.toNat)/\0<=fa/\fa<=6)/\(∀ m3:List ((Int×Int)×Int),(MapW cs.length fa.toNat m3 (wyK cs.length fa.toNat (λk=>wvB hk cs cl k) cl.length))->(((0:Int)=(0:Int)/\(([]:List SV)=[]))/\(MapW cs.length fa.toNat m3 (wyK cs.length fa.toNat (λk=>wvB hk cs cl k) cl.length))))))))))
def J2:Cx:=⟨[],[(87,Z2),(86,QU),(113,Qr),(112,ZN)],33,[3000017],0,[(103,NU)],[],[],[],false,[],[],[17],[]⟩
def J1:List (Nat×LoopAnn):=[]
def MN:Cx:=⟨[(3,(.i .i64))],[(88,Jv)],28,[3000016],0,[(73,Q0j J2 (λ_=>J1) c73 [.cell 4 true 4,.tmp 5] 33),(118,JU)],[],[],[],false,[],[],[16],[]⟩
def MW (hk:Int) (cs:List (Int×Int×Bool)) (cl:List Int) (fa:Int):List (Nat×LoopAnn):=[]
theorem Tc (a:(Int×List (Int×Int×Bool))×List Int×Int):gwp MN (MW a.1.1 a.1.2 a.2.1 a.2.2) c79 0 (Q4p [.tmp 6,.tmp 7] (.pair (.i .i64) (.i .i64)) (.i .i64) (Nv a) (UA a)) (Yz 28 (AL.can M5 a))=Y3 a.1.1 a.1.2 a.2.1 a.2.2:=by kernel_rfl
abbrev T8:Prop:=XOk Tryz.prog 79 YF
theorem Ta (h:∀ (hk:Int) (cs:List (Int×Int×Bool)) (cl:List Int) (fa:Int),(Z1 hk cs=0/\cl.length<=60/\(∀ r∈cl,-1<=r/\r<2 ^ hk.toNat)/\0<=fa/\fa<=6)->Y3 hk cs cl fa):XOk Tryz.prog 79 YF :=
 ON Q4f mixed Ku rfl (C:=MN) ⟨(.cons Wp .nil),(XsOk.cons (NV Q0h mixed (C:=J2) ⟨(.cons JA (.cons Jk (.cons Z0 (.cons WM .nil)))),(XsOk.cons MD XsOk.nil),ItsOk.nil,YlOk.nil,IysOk.nil,XfOk.nil⟩ (λ_=>J1)) (XsOk.cons Ud XsOk.nil)),ItsOk.nil,YlOk.nil,IysOk.nil,XfOk.nil⟩ (L:=λ(a:(Int×List (Int×Int×Bool))×List Int×Int)=>MW a.1.1 a.1.2 a.2.1 a.2.2) (V:=λ(a:(Int×List (Int×Int×Bool))×List Int×Int)=>Y3 a.1.1 a.1.2 a.2.1 a.2.2) Tc λa hp=>h a.1.1 a.1.2 a.2.1 a.2.2 hp
theorem M6:T8:=Ta λhk cs cl fa h=>by
 obtain⟨h1,h2,h3,h4,h5⟩:=h;obtain⟨hf,cg,aB,ai⟩:=Vp h1;unfold Y3;(try delta lI gD sT I64 NF pj8 pj4);have c1:(!inI hk 1 24)=false:=by simp only[inI,xq,z7,zk];omega
 have c2:(!(!cs.isEmpty&&!(cs.any λc=>!Zk hk c)))=false:=by
  have e1:cs.isEmpty=false:=by cases cs with|nil=>exact(aB rfl).elim|cons _ _=>rfl
  have e2:(cs.any λc=>!Zk hk c)=false:=xN.2 λc hc=>by rw[ai c hc];decide
  rw[e1,e2];rfl
 have c3:(cl.any λx=>(decide (x≠-1)&&!inI x 0 (2 ^ hk.toNat-1)))=false:=xN.2 λx hx=>by
  have:=h3 x hx;by_cases e:x=-1
  .simp[e]
  .have e2:inI x 0 (2 ^ hk.toNat-1)=true:=by
    simp only[inI,z7,zk];omega
   rw[e2];simp
 have c4:(!(!([fa].any λn=>decide (n<(0:Int))||decide ((6:Int)<n))))=false:=by simp only[List.any_cons,List.any_nil,wC,Bool.not_not,Bool.or_eq_false_iff,xy];omega
 have d1:decide ((((List.length cs):Nat):Int) > (60:Int))=false:=xO (by omega);have d2:decide ((((List.length cl):Nat):Int) > (60:Int))=false:=xO (by omega);intro w1 w2;rw[c1,c2,c3,c4,d1,d2];refine⟨trivial,(λc=>by cases c),λ_=>⟨(λc=>by cases c),λ_=>⟨⟨hf.1,hf.2,by omega⟩,(λc=>by cases c),λ_=>⟨rfl,(λc=>by cases c),λ_=>⟨⟨by omega,λ_ _=>hf⟩,(λc=>by cases c),λ_=>⟨rfl,by simp,(λc=>by cases c),λ_=>⟨⟨rfl,h1,h2,h3,h4,h5⟩,λm hm=>⟨(by and_intros<;>first|rfl|trivial|simp),hm⟩⟩⟩⟩⟩⟩⟩⟩
def GB:AL ((Int×List (Int×Int×Bool))×List Int×Int):=(.cons (.agg (.cons (.k (.i .i64)) (.one (.k (.list (.pair (.i .i64) (.pair (.i .i64) .bo))))))) (.cons (.k (.list (.i .i64))) (.one (.k (.i .i64)))))
def PX (d:(Int×List (Int×Int×Bool))×List Int×Int):Prop:=Z1 d.1.1 d.1.2=0/\d.2.1.length<=60/\(∀ r∈d.2.1,-1<=r/\r<2 ^ d.1.1.toNat)/\0<=d.2.2/\d.2.2<=6
def ME (d:(Int×List (Int×Int×Bool))×List Int×Int):SV:=.tup [.val (.i .i64) (Jd d.1.1 d.1.2 d.2.1 d.2.2),.val (.i .i64) (0:Int)]
def MP (d:(Int×List (Int×Int×Bool))×List Int×Int):List OB:=[]
def V5:CSp:=V7 GB PX ME MP
def YO (hk:Int) (cs:List (Int×Int×Bool)) (cl:List Int) (fa:Int):Prop :=
 (Z1 hk cs=0/\cl.length<=60/\(∀ r∈cl,-1<=r/\r<2 ^ hk.toNat)/\0<=fa/\fa<=6)/\(∀ m1:List ((Int×Int)×Int),(MapW cs.length fa.toNat m1 (wyK cs.length fa.toNat (λk=>wvB hk cs cl k) cl.length))->∃ (e4:(List ((Int×Int)×Int))) (d40:Int×(List Nat)),(((0:Int)=d40.1/\(0:Int)=(0:Int)/\True/\True)/\((m1=e4/\([]:List Nat)=d40.2)/\True)) /\
 LoopP (λ(d4:Int×(List Nat)) (q4:(Int×(List Nat))->Prop) =>
  ((∀ r:Nat,r<(List.length e4)->r∈d4.2) ->
   (false=true ->
    (d4.2≠[])/\(I64 (d4.1+(List.getD e4 (List.getLastD d4.2 0) ((0,0),0)).2))/\(∃ d6:Int×(List Nat),(((d4.1+(List.getD e4 (List.getLastD d4.2 0) ((0,0),0)).2)=d6.1/\(0:Int)=(0:Int)/\True/\True)/\((e4=e4/\d4.2=d6.2)/\True))/\q4 d6)) /\
   (false=false ->
    ((d4.1=(Jd hk cs cl fa)/\(0:Int)=(0:Int)/\(([]:List SV)=[]))/\(True)))) /\
  (∀ r5:Nat,r5<(List.length e4)->r5∉d4.2 ->
   (true=true ->
    ((d4.2++[r5])≠[])/\(I64 (d4.1+(List.getD e4 (List.getLastD (d4.2++[r5]) 0) ((0,0),0)).2))/\(∃ d7:Int×(List Nat),(((d4.1+(List.getD e4 (List.getLastD (d4.2++[r5]) 0) ((0,0),0)).2)=d7.1/\(0:Int)=(0:Int)/\True/\True)/\((e4=e4/\(d4.2++[r5])=d7.2)/\True))/\q4 d7)) /\
   (true=false ->
    ((d4.1=(Jd hk cs cl fa)/\(0:Int)=(0:Int)/\(([]:List SV)=[]))/\(True))))) d40)
def Gw:Cx:=⟨[],[],29,[],0,[(79,YF)],[],[],[],false,[],[],[],[]⟩
def RW (hk:Int) (cs:List (Int×Int×Bool)) (cl:List Int) (fa:Int):List (Nat×LoopAnn):=[(0,⟨(List ((Int×Int)×Int)),Int×(List Nat),[6,7,19],λe x=>[.val (.i .i64) x.1,.val (.i .i64) (0:Int),.box 19 0],λe x=>[(19,.slot 19,.iter (.pair (.i .i64) (.i .i64)) (.i .i64) e x.2)]⟩)]
theorem Rg (d:(Int×List (Int×Int×Bool))×List Int×Int):gwp (Gw) (RW d.1.1 d.1.2 d.2.1 d.2.2) c27 0 (Vv [.tmp 6,.tmp 7] (ME d) (MP d)) (Qw 29 (AL.can GB d))=YO d.1.1 d.1.2 d.2.1 d.2.2:=by kernel_rfl
abbrev Ry:Prop:=OkC Tryz.prog 27 V5
theorem Rl (h:∀ (hk:Int) (cs:List (Int×Int×Bool)) (cl:List Int) (fa:Int),(Z1 hk cs=0/\cl.length<=60/\(∀ r∈cl,-1<=r/\r<2 ^ hk.toNat)/\0<=fa/\fa<=6)->YO hk cs cl fa):OkC Tryz.prog 27 V5 :=
 Z4 Q5x mixed (C:=Gw) (V:=λ(d:(Int×List (Int×Int×Bool))×List Int×Int)=>YO d.1.1 d.1.2 d.2.1 d.2.2) ⟨.nil,(XsOk.cons M6 XsOk.nil),ItsOk.nil,YlOk.nil,IysOk.nil,XfOk.nil⟩ (Rg) λd hp=>h d.1.1 d.1.2 d.2.1 d.2.2 hp
theorem GS:Ry:=Rl λhk cs cl fa h=>by
 obtain⟨h1,h2,h3,h4,h5⟩:=id h;obtain⟨hf,cg,aB,ai⟩:=Vp h1;have bk:=xC.2 aB;unfold YO;(try delta lI gD sT I64 NF pj8 pj4);refine⟨h,λm hm=>⟨m,(0,[]),(by and_intros<;>first|rfl|trivial),?_⟩⟩;refine LoopP.rng m.length (λs dn=>s=(dn.map λr=>(m.getD r ((0,0),0)).2).sum) rfl ?_;intro s dn hn ah hs q hq;dsimp only;have hp:∀ x∈m,0<=(λx:(Int×Int)×Int=>x.2) x:=λx hx=>Int.le_of_lt (hm.2.1 x hx).2.1;have jk:=PA hm (λ_ w=>w) λ_=>rfl;have hb:=Q6t (n:=cs.length) (mo:=fa.toNat) (λk=>wvB hk cs cl k) bk (by omega) (by omega) (k:=cl.length) (by omega);have hV:(m.map λx=>x.2).sum=Jd hk cs cl fa:=jk;have wg:Jd hk cs cl fa<=420*3138428376721:=hb;have eD:=λ(dn:List Nat) (hn:dn.Nodup) (ah:∀ r∈dn,r<m.length)=>Cp (d:=(((0,0),0):(Int×Int)×Int)) (F:=λx=>x.2) hn ah hp;refine⟨λae=>⟨(λc=>by cases c),λ_=>⟨⟨?_,rfl,rfl⟩,trivial⟩⟩,λr hr gv=>⟨λ_=>?_,(λc=>by cases c)⟩⟩
 .rw[hs,<-hV];exact(eD dn hn ah).2 ae
 .have ez:List.getLastD (dn++[r]) 0=r:=by simp
  have aZ:s+(m.getD r ((0,0),0)).2=((dn++[r]).map λr=>(m.getD r ((0,0),0)).2).sum:=by rw[hs,TX];simp
  simp only[ez];have aN:=λy (hy:y∈dn++[r])=>show y<m.length from (zQ.1 hy).elim (ah y) λh=>by rw[zp] at h;omega
  have hle:=(eD (dn++[r]) (DK hn gv) aN).1;have bn:0<=((dn++[r]).map λr=>(m.getD r ((0,0),0)).2).sum:=XU λy hy=>by have:=aN y hy;rw[Qh this];exact hp _ (zr this)
  refine⟨by simp,?_,(s+(m.getD r ((0,0),0)).2,dn++[r]),(by and_intros<;>first|rfl|trivial),hq r _ hr gv aZ⟩;simp only[Qm];rw[aZ];omega
def Nw:AL ((Int×List (Int×Int×Bool))×List Int):=(.cons (.agg (.cons (.k (.i .i64)) (.one (.k (.list (.pair (.i .i64) (.pair (.i .i64) .bo))))))) (.one (.k (.list (.i .i64)))))
def B_ (d:(Int×List (Int×Int×Bool))×List Int):Prop:=Z1 d.1.1 d.1.2=0/\d.2.length<=60/\(∀ r∈d.2,-1<=r/\r<2 ^ d.1.1.toNat)
def UJ (d:(Int×List (Int×Int×Bool))×List Int):SV:=.tup [.val (.i .i64) (Mx d.1.1 d.1.2 d.2),.lst 0,.val (.i .i64) (Nn d.1.1 d.1.2 d.2),.val (.i .i64) (Js d.1.1 d.1.2 d.2)]
def UL (d:(Int×List (Int×Int×Bool))×List Int):List OB:=[.lst 3 (.i .i64) (Dz d.1.1 d.1.2 d.2) ((Dz d.1.1 d.1.2 d.2).isEmpty)]
def Vj:CSp:=V7 Nw B_ UJ UL
def Wi (hk:Int) (cs:List (Int×Int×Bool)) (cl:List Int):Prop :=
 ∀ w1:List Value,∀ w2:List Value,(True)/\((!(inI hk 1 24))=true ->
  w2=w2/\w1=w1/\(((0:Int)=(Mx hk cs cl)/\True/\(0:Int)=(Nn hk cs cl)/\(3:Int)=(Js hk cs cl)/\(([]:List SV)=[]))/\(((Dz hk cs cl)=[]/\(Dz hk cs cl).isEmpty=true)/\True))) /\
 ((!(inI hk 1 24))=false ->
  ((decide ((lI cs) > (60:Int)))=true ->
   w2=w2/\w1=w1/\(((0:Int)=(Mx hk cs cl)/\True/\(0:Int)=(Nn hk cs cl)/\(5:Int)=(Js hk cs cl)/\(([]:List SV)=[]))/\(((Dz hk cs cl)=[]/\(Dz hk cs cl).isEmpty=true)/\True))) /\
  ((decide ((lI cs) > (60:Int)))=false ->
   (1<=hk/\hk<=24/\cs.length<=1000000)/\((!(!cs.isEmpty&&!(cs.any λc=>!Zk hk c)))=true ->
    w2=w2/\w1=w1/\(((0:Int)=(Mx hk cs cl)/\True/\(0:Int)=(Nn hk cs cl)/\(2:Int)=(Js hk cs cl)/\(([]:List SV)=[]))/\(((Dz hk cs cl)=[]/\(Dz hk cs cl).isEmpty=true)/\True))) /\
   ((!(!cs.isEmpty&&!(cs.any λc=>!Zk hk c)))=false ->
    w2=w2/\((decide ((lI cl) > (60:Int)))=true ->
     w1=w1/\(((0:Int)=(Mx hk cs cl)/\True/\(0:Int)=(Nn hk cs cl)/\(5:Int)=(Js hk cs cl)/\(([]:List SV)=[]))/\(((Dz hk cs cl)=[]/\(Dz hk cs cl).isEmpty=true)/\True))) /\
    ((decide ((lI cl) > (60:Int)))=false ->
     (cl.length<=1000000/\∀ x∈cl,(λ(x1:Int)=>1<=hk/\hk<=24) x)/\((cl.any (λ(x1:Int)=>(decide (x1≠-1)&&!inI x1 0 (2 ^ hk.toNat-1))))=true ->
      w1=w1/\(((0:Int)=(Mx hk cs cl)/\True/\(0:Int)=(Nn hk cs cl)/\(2:Int)=(Js hk cs cl)/\(([]:List SV)=[]))/\(((Dz hk cs cl)=[]/\(Dz hk cs cl).isEmpty=true)/\True))) /\
     ((cl.any (λ(x1:Int)=>(decide (x1≠-1)&&!inI x1 0 (2 ^ hk.toNat-1))))=false ->
      w1=w1/\(hk=hk/\Z1 hk cs=0/\cl.length<=60/\(∀ r∈cl,-1<=r/\r<2 ^ hk.toNat))/\(0<=(0:Int))/\((0:Int)<(List.length (Qf hk cs cl)))/\((gD (Qf hk cs cl) (0:Int) [])≠[]/\(gD (Qf hk cs cl) (0:Int) []).length<=1000000)/\((decide ((Za (gD (Qf hk cs cl) (0:Int) []))>=(1048576:Int)))=true ->
       (((0:Int)=(Mx hk cs cl)/\True/\(0:Int)=(Nn hk cs cl)/\(7:Int)=(Js hk cs cl)/\(([]:List SV)=[]))/\(((Dz hk cs cl)=[]/\(Dz hk cs cl).isEmpty=true)/\True))) /\
      ((decide ((Za (gD (Qf hk cs cl) (0:Int) []))>=(1048576:Int)))=false ->
       (0<=(0:Int))/\((0:Int)<(List.length (Qf hk cs cl)))/\((gD (Qf hk cs cl) (0:Int) []).length<=1000000)/\∃ (e6:Unit) (d60:(List Int)×Int×Int),(((Gt (gD (Qf hk cs cl) (0:Int) []) (λy=>decide (y=(Za (gD (Qf hk cs cl) (0:Int) [])))))=(Gt (gD (Qf hk cs cl) (0:Int) []) (λy=>decide (y=(Za (gD (Qf hk cs cl) (0:Int) [])))))/\True/\(Za (gD (Qf hk cs cl) (0:Int) []))=(Za (gD (Qf hk cs cl) (0:Int) []))/\True/\True/\(Gt (gD (Qf hk cs cl) (0:Int) []) (λy=>decide (y=(Za (gD (Qf hk cs cl) (0:Int) [])))))=d60.2.1/\(lI cl)=(lI cl)/\(0:Int)=d60.2.2/\True)/\((d60.1=[]/\(List.isEmpty d60.1)=true)/\(hk=hk/\cs=cs/\hk=hk/\cl=cl/\(([]:List SV)=[]))/\((Qf hk cs cl)=(Qf hk cs cl)/\false=false)/\True)) /\
       LoopP (λ(d6:(List Int)×Int×Int) (q6:((List Int)×Int×Int)->Prop) =>
        ((decide (d6.2.2<(lI cl)))=true ->
         ∃ (e9:(List Int)×Int×Int×Int) (d90:Int),(((Gt (gD (Qf hk cs cl) (0:Int) []) (λy=>decide (y=(Za (gD (Qf hk cs cl) (0:Int) [])))))=(Gt (gD (Qf hk cs cl) (0:Int) []) (λy=>decide (y=(Za (gD (Qf hk cs cl) (0:Int) [])))))/\True/\(Za (gD (Qf hk cs cl) (0:Int) []))=(Za (gD (Qf hk cs cl) (0:Int) []))/\True/\True/\d6.2.1=e9.2.1/\d6.2.2=e9.2.2.1/\(0:Int)=d90/\(lI cl)=(lI cl)/\d6.2.2=e9.2.2.2/\True)/\((d6.1=e9.1/\(List.isEmpty d6.1)=(List.isEmpty e9.1))/\(hk=hk/\cs=cs/\hk=hk/\cl=cl/\(([]:List SV)=[]))/\((Qf hk cs cl)=(Qf hk cs cl)/\false=false)/\True)) /\
         LoopP (λ(d9:Int) (q9:(Int)->Prop) =>
          (True)/\(I64 (e9.2.2.1+(1:Int)))/\(0<=(e9.2.2.1+(1:Int)))/\((e9.2.2.1+(1:Int))<(List.length (Qf hk cs cl)))/\(cs≠[]/\cs.length<=1000/\-1000000<=e9.2.1/\e9.2.1<=1000000/\-1000000<=d9/\d9<=1000000)/\(0<=(Int.tmod (e9.2.1+d9) cs.length))/\((Int.tmod (e9.2.1+d9) cs.length)<(List.length (gD (Qf hk cs cl) (e9.2.2.1+(1:Int)) [])))/\(I64 ((if d9=1 then 0 else 1)+(gD (gD (Qf hk cs cl) (e9.2.2.1+(1:Int)) []) (Int.tmod (e9.2.1+d9) cs.length) 0)))/\(0<=e9.2.2.1)/\(e9.2.2.1<(List.length (Qf hk cs cl)))/\(0<=e9.2.1)/\(e9.2.1<(List.length (gD (Qf hk cs cl) e9.2.2.1 [])))/\((((if d9=1 then 0 else 1)+(gD (gD (Qf hk cs cl) (e9.2.2.1+(1:Int)) []) (Int.tmod (e9.2.1+d9) cs.length) 0)) != (gD (gD (Qf hk cs cl) e9.2.2.1 []) e9.2.1 0))=true ->
           (I64 (d9+(1:Int)))/\(∃ d10:Int,(((Gt (gD (Qf hk cs cl) (0:Int) []) (λy=>decide (y=(Za (gD (Qf hk cs cl) (0:Int) [])))))=(Gt (gD (Qf hk cs cl) (0:Int) []) (λy=>decide (y=(Za (gD (Qf hk cs cl) (0:Int) [])))))/\True/\(Za (gD (Qf hk cs cl) (0:Int) []))=(Za (gD (Qf hk cs cl) (0:Int) []))/\True/\True/\e9.2.1=e9.2.1/\e9.2.2.1=e9.2.2.1/\(d9+(1:Int))=d10/\(lI cl)=(lI cl)/\e9.2.2.2=e9.2.2.2/\True)/\((e9.1=e9.1/\(List.isEmpty e9.1)=(List.isEmpty e9.1))/\(hk=hk/\cs=cs/\hk=hk/\cl=cl/\(([]:List SV)=[]))/\((Qf hk cs cl)=(Qf hk cs cl)/\false=false)/\True))/\q9 d10)) /\
          ((((if d9=1 then 0 else 1)+(gD (gD (Qf hk cs cl) (e9.2.2.1+(1:Int)) []) (Int.tmod (e9.2.1+d9) cs.length) 0)) != (gD (gD (Qf hk cs cl) e9.2.2.1 []) e9.2.1 0))=false ->
           (((List.length e9.1)+(List.length [d9]))*8<=70368744177664)/\(cs≠[]/\cs.length<=1000/\-1000000<=e9.2.1/\e9.2.1<=1000000/\-1000000<=d9/\d9<=1000000)/\(I64 (e9.2.2.2+(1:Int)))/\(∃ d11:(List Int)×Int×Int,(((Gt (gD (Qf hk cs cl) (0:Int) []) (λy=>decide (y=(Za (gD (Qf hk cs cl) (0:Int) [])))))=(Gt (gD (Qf hk cs cl) (0:Int) []) (λy=>decide (y=(Za (gD (Qf hk cs cl) (0:Int) [])))))/\True/\(Za (gD (Qf hk cs cl) (0:Int) []))=(Za (gD (Qf hk cs cl) (0:Int) []))/\True/\True/\(Int.tmod (e9.2.1+d9) cs.length)=d11.2.1/\(lI cl)=(lI cl)/\(e9.2.2.2+(1:Int))=d11.2.2/\True)/\(((e9.1++[d9])=d11.1/\false=(List.isEmpty d11.1))/\(hk=hk/\cs=cs/\hk=hk/\cl=cl/\(([]:List SV)=[]))/\((Qf hk cs cl)=(Qf hk cs cl)/\false=false)/\True))/\q6 d11))) d90) /\
        ((decide (d6.2.2<(lI cl)))=false ->
         (((Gt (gD (Qf hk cs cl) (0:Int) []) (λy=>decide (y=(Za (gD (Qf hk cs cl) (0:Int) [])))))=(Mx hk cs cl)/\True/\(Za (gD (Qf hk cs cl) (0:Int) []))=(Nn hk cs cl)/\(0:Int)=(Js hk cs cl)/\(([]:List SV)=[]))/\((d6.1=(Dz hk cs cl)/\(List.isEmpty d6.1)=(Dz hk cs cl).isEmpty)/\True)))) d60))))))
def ZJ:Cx:=⟨[],[(87,Z2),(86,QU),(113,Qr),(112,ZN)],33,[3000017],0,[(103,NU)],[],[],[],false,[],[],[17],[]⟩
def ZR:List (Nat×LoopAnn):=[]
def No:Cx:=⟨[(3,(.i .i64))],[(75,Xd),(76,JB),(77,Wg),(78,ZK)],79,[3000020],0,[(73,Q0j ZJ (λ_=>ZR) c73 [.cell 4 true 4,.tmp 5] 33),(74,Jz)],[],[],[],false,[],[],[20],[]⟩
def HX (hk:Int) (cs:List (Int×Int×Bool)) (cl:List Int):List (Nat×LoopAnn):=[(0,⟨Unit,(List Int)×Int×Int,[4,5,6,8,9,10,37,38],λe x=>[.val (.i .i64) (Gt (List.getD (Qf hk cs cl) (Int.toNat (0:Int)) []) (λy=>decide (y=(Za (List.getD (Qf hk cs cl) (Int.toNat (0:Int)) []))))),.lst 69,.val (.i .i64) (Za (List.getD (Qf hk cs cl) (Int.toNat (0:Int)) [])),.box 8 0,.lst 23,.val (.i .i64) x.2.1,.val (.i .i64) (((List.length cl):Nat):Int),.val (.i .i64) x.2.2],λe x=>[(69,.slot 5,.lst 3 (.i .i64) x.1 (List.isEmpty x.1)),(8,.slot 8,.cells [.val (.i .i64) hk,.val (.list (.pair (.i .i64) (.pair (.i .i64) .bo))) cs,.val (.i .i64) hk,.val (.list (.i .i64)) cl] (some 134)),(23,.slot 9,.lst 27 (.list (.i .i64)) (Qf hk cs cl) false)]⟩),
 (2,⟨(List Int)×Int×Int×Int,Int,[4,5,6,8,9,10,11,12,37,38],λe x=>[.val (.i .i64) (Gt (List.getD (Qf hk cs cl) (Int.toNat (0:Int)) []) (λy=>decide (y=(Za (List.getD (Qf hk cs cl) (Int.toNat (0:Int)) []))))),.lst 69,.val (.i .i64) (Za (List.getD (Qf hk cs cl) (Int.toNat (0:Int)) [])),.box 8 0,.lst 23,.val (.i .i64) e.2.1,.val (.i .i64) e.2.2.1,.val (.i .i64) x,.val (.i .i64) (((List.length cl):Nat):Int),.val (.i .i64) e.2.2.2],λe x=>[(69,.slot 5,.lst 3 (.i .i64) e.1 (List.isEmpty e.1)),(8,.slot 8,.cells [.val (.i .i64) hk,.val (.list (.pair (.i .i64) (.pair (.i .i64) .bo))) cs,.val (.i .i64) hk,.val (.list (.i .i64)) cl] (some 134)),(23,.slot 9,.lst 27 (.list (.i .i64)) (Qf hk cs cl) false)]⟩)]
theorem PH (d:(Int×List (Int×Int×Bool))×List Int):gwp (No) (HX d.1.1 d.1.2 d.2) c26 0 (Vv [.tmp 4,.tmp 5,.tmp 6,.tmp 7] (UJ d) (UL d)) (Qw 79 (AL.can Nw d))=Wi d.1.1 d.1.2 d.2:=by kernel_rfl
abbrev P8:Prop:=OkC Tryz.prog 26 Vj
theorem P1 (h:∀ (hk:Int) (cs:List (Int×Int×Bool)) (cl:List Int),(Z1 hk cs=0/\cl.length<=60/\(∀ r∈cl,-1<=r/\r<2 ^ hk.toNat))->Wi hk cs cl):OkC Tryz.prog 26 Vj :=
 Z4 Q5s mixed (C:=No) (V:=λ(d:(Int×List (Int×Int×Bool))×List Int)=>Wi d.1.1 d.1.2 d.2) ⟨(.cons NO (.cons Uw (.cons Vh (.cons XB .nil)))),(XsOk.cons (NV Q0h mixed (C:=ZJ) ⟨(.cons JA (.cons Jk (.cons Z0 (.cons WM .nil)))),(XsOk.cons MD XsOk.nil),ItsOk.nil,YlOk.nil,IysOk.nil,XfOk.nil⟩ (λ_=>ZR)) (XsOk.cons Vz XsOk.nil)),ItsOk.nil,YlOk.nil,IysOk.nil,XfOk.nil⟩ (PH) λd hp=>h d.1.1 d.1.2 d.2 hp
theorem Q53 {hk:Int}{cs:List UC}{cl:List Int}(h:BK hk cs cl>=1048576):0=Mx hk cs cl/\0=Nn hk cs cl/\7=Js hk cs cl/\Dz hk cs cl=[]/\(Dz hk cs cl).isEmpty=true:=by unfold Mx Nn Js Dz;rw[z8 h,z8 h,z8 h,z8 h];exact⟨rfl,rfl,rfl,rfl,rfl⟩
theorem Rm {hk:Int}{cs:List UC}{cl:List Int}(h:¬ BK hk cs cl>=1048576):Mx hk cs cl=T4 hk cs cl/\Nn hk cs cl=BK hk cs cl/\Js hk cs cl=0/\Dz hk cs cl=YY cs.length (λk=>wvB hk cs cl k) cl.length cl.length (T4 hk cs cl):=by unfold Mx Nn Js Dz;rw[zd h,zd h,zd h,zd h];exact⟨rfl,rfl,rfl,rfl⟩
theorem RI {l:List Int}{x:Int}(h:x∈l):∃ i:Nat,i<l.length/\Gt l (λy=>decide (y=x))=i/\l.getD i 0=x/\∀ j,j<i->l.getD j 0≠x:=by
 obtain⟨i,hi,hx⟩:=List.getElem_of_mem h;cases hf:l.findIdx? λy=>decide (y=x) with
 |none =>have:=List.findIdx?_eq_none_iff.1 hf x h;simp at this
 |some j =>obtain⟨h1,h2,h3⟩:=List.findIdx?_eq_some_iff_getElem.1 hf;refine⟨j,h1,by unfold Gt;rw[hf],by rw[Qh h1];exact xh h2,λk hk e=>?_⟩;have:=h3 k hk;rw[Qh (by omega)] at e;simp[e] at this
set_option maxHeartbeats 2000000 in
theorem Hu:P8:=P1 λhk cs cl h=>by
 obtain⟨h1,h2,h3⟩:=id h;obtain⟨hf,cg,aB,ai⟩:=Vp h1;have hn:0<cs.length:=xC.2 aB;unfold Wi;(try delta lI gD sT I64 NF pj8 pj4);have c1:(!inI hk 1 24)=false:=by simp only[inI,xq,z7,zk];omega
 have c2:(!(!cs.isEmpty&&!(cs.any λc=>!Zk hk c)))=false:=by
  have e1:cs.isEmpty=false:=by cases cs with|nil=>exact(aB rfl).elim|cons _ _=>rfl
  have e2:(cs.any λc=>!Zk hk c)=false:=xN.2 λc hc=>by rw[ai c hc];decide
  rw[e1,e2];rfl
 have c3:(cl.any λx=>(decide (x≠-1)&&!inI x 0 (2 ^ hk.toNat-1)))=false:=xN.2 λx hx=>by
  have:=h3 x hx;by_cases e:x=-1
  .simp[e]
  .have e2:inI x 0 (2 ^ hk.toNat-1)=true:=by
    simp only[inI,z7,zk];omega
   rw[e2];simp
 have d1:decide ((((List.length cs):Nat):Int) > (60:Int))=false:=xO (by omega);have d2:decide ((((List.length cl):Nat):Int) > (60:Int))=false:=xO (by omega);have g0:(Qf hk cs cl).getD (Int.toNat 0) []=QO cs.length (λk=>wvB hk cs cl k) cl.length cl.length:=TI (Nat.zero_le _);have eE:Za (QO cs.length (λk=>wvB hk cs cl k) cl.length cl.length)=BK hk cs cl:=rfl;have eI:Gt (QO cs.length (λk=>wvB hk cs cl k) cl.length cl.length) (λy=>decide (y=BK hk cs cl))=T4 hk cs cl:=rfl;intro w1 w2;simp only[c1,c2,c3,d1,d2,g0,eE,eI,true_and,and_true,false_implies,zD,forall_const,AR,YM];have aR:QO cs.length (λk=>wvB hk cs cl k) cl.length cl.length≠[]:=λe=>by have:=YM cs.length (λk=>wvB hk cs cl k) cl.length cl.length;rw[e] at this;simp at this;omega
 refine⟨⟨hf.1,hf.2,by omega⟩,⟨by omega,λ_ _=>hf⟩,h,by omega,by omega,⟨aR,by omega⟩,λc=>?_,λc=>?_⟩
 .obtain⟨t1,t2,t3,t4,t5⟩:=Q53 (xh c);exact⟨⟨t1,t2,t3⟩,t4,t5⟩
 have hE:BK hk cs cl<1048576:=by have:=xD c;omega
 obtain⟨eA,eF,eR,eW⟩:=Rm (hk:=hk) (cs:=cs) (cl:=cl) (by omega);rw[eA,eF,eR,eW];obtain⟨i0,kO,hI,hg,_⟩:=RI (DQ aR).1;rw[YM] at kO;rw[eE,eI] at hI;rw[eE] at hg;have rQ:∀ k:Nat,k<=cl.length->(Qf hk cs cl).getD k []=QO cs.length (λk=>wvB hk cs cl k) cl.length (cl.length-k):=λk hk=>TI hk;obtain⟨W,hW⟩:∃ W:Nat->Int->Bool,(λk=>wvB hk cs cl k)=W:=⟨_,rfl⟩;rw[hW] at hg rQ |-;refine⟨by omega,by omega,by omega,(),([],T4 hk cs cl,0),⟨⟨rfl,rfl⟩,rfl,rfl⟩,?_⟩;refine⟨λd=>∃ k:Nat,k<=cl.length/\d.2.2=k/\(0<=d.2.1/\d.2.1<cs.length)/\d.1++YY cs.length W cl.length (cl.length-k) d.2.1=YY cs.length W cl.length cl.length (T4 hk cs cl)/\d.1.length=k/\(QO cs.length W cl.length (cl.length-k)).getD d.2.1.toNat 0<1048576,λd=>cl.length-d.2.2.toNat,⟨0,Nat.zero_le _,rfl,⟨by show 0<=T4 hk cs cl;omega,by show T4 hk cs cl<_;omega⟩,rfl,rfl,by show (QO cs.length W cl.length (cl.length-0)).getD (T4 hk cs cl).toNat 0<_;rw[hI,zw,Nat.sub_zero,hg];exact hE⟩,?_⟩;rintro⟨L,a,_⟩ ⟨k,bw,rfl,ha,hL,rR,ah⟩;dsimp only at ha hL rR ah |-;refine⟨λc=>?_,λc=>?_⟩
 .have hk:k<cl.length:=by have:=xh c;omega
  obtain⟨j,hj⟩:∃ j,cl.length-k=j+1:=⟨cl.length-k-1,by omega⟩;have g1:=rQ k bw;have g2:=rQ (k+1) hk;rw[hj] at g1 hL ah;rw[show cl.length-(k+1)=j by omega] at g2;obtain⟨hw,hs⟩:=LQ ha ah;have nu:=Lw cs.length (QO cs.length W cl.length (j+1)) (QO cs.length W cl.length j) a;have kg:=λt (h0:0<=t)=>Cq (n:=cs.length) (now:=QO cs.length W cl.length (j+1)) (nxt:=QO cs.length W cl.length j) (a:=a) (t:=t) h0;have mO:YY cs.length W cl.length (j+1) a=SL cs.length (QO cs.length W cl.length (j+1)) (QO cs.length W cl.length j) a::YY cs.length W cl.length j (nxC cs.length a (SL cs.length (QO cs.length W cl.length (j+1)) (QO cs.length W cl.length j) a)):=rfl;rw[mO] at hL;generalize SL cs.length (QO cs.length W cl.length (j+1)) (QO cs.length W cl.length j) a=S at hs nu kg hL;refine⟨(L,a,(k:Int),(k:Int)),0,by and_intros<;>rfl,?_⟩;refine⟨λt=>0<=t/\t<=S,λt=>(S-t).toNat,⟨Int.le_refl _,nu.1⟩,?_⟩;rintro t ⟨sY,wh⟩;dsimp only;rw[show ((k:Int)+1).toNat=k+1 from rfl,zw,g1,g2,YM,YM];have lj:=EI hn ha.1 sY;have m9:=Ps cs.length W cl.length j (nxC cs.length a t).toNat;have sV:=S6 t;have rS:InK .i64 ((if t=1 then 0 else 1)+(QO cs.length W cl.length j).getD (Int.tmod (a+t) cs.length).toNat 0):=by rw[Qm];show _<=ftC t+(QO cs.length W cl.length j).getD (nxC cs.length a t).toNat 0/\ftC t+(QO cs.length W cl.length j).getD (nxC cs.length a t).toNat 0<=_;omega
  refine⟨by rw[Qm];omega,by omega,by omega,⟨aB,by omega,by omega,by omega,by omega,by omega⟩,lj.1,lj.2,rS,by omega,by omega,ha.1,ha.2,λc2=>?_,λc2=>?_⟩
  .have c2:¬ ftC t+(QO cs.length W cl.length j).getD (nxC cs.length a t).toNat 0=(QO cs.length W cl.length (j+1)).getD a.toNat 0:=bne_iff_ne.1 c2;have vt:t≠S:=λe=>c2 (by rw[e];exact hs);exact⟨by rw[Qm];omega,_,rfl,⟨by omega,by omega⟩,by omega⟩
  .have c2:ftC t+(QO cs.length W cl.length j).getD (nxC cs.length a t).toNat 0=(QO cs.length W cl.length (j+1)).getD a.toNat 0:=bne_eq_false_iff_eq.1 c2;have:=kg t sY c2;obtain rfl:t=S:=by omega
   refine⟨by rw[xp,rR];omega,⟨aB,by omega,by omega,by omega,by omega,by omega⟩,by rw[Qm];omega,(L++[t],nxC cs.length a t,(k:Int)+1),?_,⟨k+1,hk,rfl,lj,?_,by rw[zJ,rR];rfl,?_⟩,?_⟩
   .and_intros<;>first|rfl|simp
   .dsimp only;rw[zZ,show cl.length-(k+1)=j by omega];exact hL
   .dsimp only;rw[show cl.length-(k+1)=j by omega];omega
   .dsimp only;omega
 .have hk:k=cl.length:=by have:=xD c;omega
  subst hk;rw[xP] at hL;have pZ:L=YY cs.length W cl.length cl.length (T4 hk cs cl):=by rw[<-hL];exact(xJ _).symm
  and_intros<;>first|rfl|exact pZ|rw[pZ]
def BF:AL (Int×List (Int×Int×Bool)):=(.one (.agg (.cons (.k (.i .i64)) (.one (.k (.list (.pair (.i .i64) (.pair (.i .i64) .bo))))))))
def Rc (d:Int×List (Int×Int×Bool)):Prop:=d.2.length<=1000
def DA (d:Int×List (Int×Int×Bool)):SV:=.agg [.val (.i .i64) d.1,.lst 0]
def GV (d:Int×List (Int×Int×Bool)):List OB:=[.lst 87 (.pair (.i .i64) (.pair (.i .i64) .bo)) d.2 false]
def MZ:CSp:=V7 BF Rc DA GV
def V0 (hk:Int) (cs:List (Int×Int×Bool)):Prop :=
 (((List.length ([]:List (Int×Int×Bool)))+(List.length cs))*24<=70368744177664)/\((hk=hk/\True/\(([]:List SV)=[]))/\(((([]:List (Int×Int×Bool))++cs)=cs/\((List.isEmpty cs)&&false)=false)/\True))
def BJ:Cx:=⟨[(87,(.pair (.i .i64) (.pair (.i .i64) .bo)))],[],9,[],0,[],[],[],[],false,[],[],[],[]⟩
def Sr (hk:Int) (cs:List (Int×Int×Bool)):List (Nat×LoopAnn):=[]
theorem SN (d:Int×List (Int×Int×Bool)):gwp (BJ) (Sr d.1 d.2) c16 0 (Vv [.cell 2 true 2] (DA d) (GV d)) (Qw 9 (AL.can BF d))=V0 d.1 d.2:=by kernel_rfl
abbrev SA:Prop:=OkC Tryz.prog 16 MZ
theorem SX (h:∀ (hk:Int) (cs:List (Int×Int×Bool)),(cs.length<=1000)->V0 hk cs):OkC Tryz.prog 16 MZ :=
 Z4 Q5b mixed (C:=BJ) (V:=λ(d:Int×List (Int×Int×Bool))=>V0 d.1 d.2) ⟨.nil,XsOk.nil,ItsOk.nil,YlOk.nil,IysOk.nil,XfOk.nil⟩ (SN) λd hp=>h d.1 d.2 hp
theorem SW:SA:=SX λhk cs h=>by unfold V0;(try delta lI gD sT I64 NF pj8 pj4);simp only[List.length_nil,xl];refine⟨by omega,?_⟩;and_intros<;>first|rfl|trivial|simp
def GU:AL (List Int):=(.one (.k (.list (.i .i64))))
def T3 (d:List Int):Prop:=d.length<=1000
def MJ (d:List Int):SV:=.lst 0
def MQ (d:List Int):List OB:=[.lst 3 (.i .i64) d false]
def NB:CSp:=V7 GU T3 MJ MQ
def YS (l:List Int):Prop :=
 (((List.length ([]:List Int))+(List.length l))*8<=70368744177664)/\(True/\(((([]:List Int)++l)=l/\((List.isEmpty l)&&false)=false)/\True))
def GY:Cx:=⟨[(3,(.i .i64))],[],6,[],0,[],[],[],[],false,[],[],[],[]⟩
def RA (l:List Int):List (Nat×LoopAnn):=[]
theorem TY (d:List Int):gwp (GY) (RA d) c25 0 (Vv [.tmp 2] (MJ d) (MQ d)) (Qw 6 (AL.can GU d))=YS d:=by kernel_rfl
abbrev Rx:Prop:=OkC Tryz.prog 25 NB
theorem RL (h:∀ (l:List Int),(l.length<=1000)->YS l):OkC Tryz.prog 25 NB :=
 Z4 Q51 mixed (C:=GY) (V:=λ(d:List Int)=>YS d) ⟨.nil,XsOk.nil,ItsOk.nil,YlOk.nil,IysOk.nil,XfOk.nil⟩ (TY) λd hp=>h d hp
theorem Rp:Rx:=RL λl h=>by unfold YS;(try delta lI gD sT I64 NF pj8 pj4);simp only[List.length_nil,xl];refine⟨by omega,?_⟩;and_intros<;>first|rfl|trivial|simp
def V8 (l:List Int) (i:Int):Int:=if l.length=0 then 0 else l.getD (Int.tmod i l.length).toNat 0
theorem Oz {l:List Int}{i:Int}(h:∀ x∈l,0<=x/\x<=255) (hi:0<=i):0<=V8 l i/\V8 l i<=255:=by
 unfold V8;split
 .omega
 .rename_i hz;have e:=Int.tmod_eq_emod_of_nonneg (b:=(l.length:Int)) hi;have g1:=Int.emod_nonneg i (show (l.length:Int)≠0 by omega);have g2:=Int.emod_lt_of_pos i (show (0:Int)<l.length by omega);have g3:(Int.tmod i l.length).toNat<l.length:=by omega
  rw[Qh g3];exact h _ (zr g3)
def HK (rw:List Int):Nat:=if rw.length=0 then 1 else if rw.length<25 then rw.length else 25
def Q4d (rw:List Int) (i:Nat):UC:=(-1,(Int.tmod (V8 rw i) 8,decide (V8 rw i>=128)))
def H0 (rw:List Int) (k:Nat):List UC:=(List.range k).map (Q4d rw)
def Q9 (rw:List Int):List UC:=H0 rw (HK rw)
def trM (sp:List Int):Nat:=if sp.length<40 then sp.length else 40
def trV (sp:List Int) (i:Nat):Int:=Int.tmod (sp.getD i 0) 16
def trP (n:Int) (fi:Int) (sp:List Int) (mo:Int):Nat->Int×Int
 |0=>(0,Int.tmod fi n)
 |i+1=>if (decide (trV sp i<2)&&decide ((trP n fi sp mo i).1<mo))=true then ((trP n fi sp mo i).1+1,Int.tmod ((trP n fi sp mo i).2+2*trV sp i) n) else ((trP n fi sp mo i).1,Int.tmod ((trP n fi sp mo i).2+1) n)
def trF (rw:List Int) (fi:Int) (sp:List Int) (mo:Int) (i:Nat):Int:=(trP (Q9 rw).length fi sp mo i).1
def trA (rw:List Int) (fi:Int) (sp:List Int) (mo:Int) (i:Nat):Int:=(trP (Q9 rw).length fi sp mo i).2
def trS (rw:List Int) (fi:Int) (sp:List Int) (mo:Int) (i:Nat):Int:=if (decide (trV sp i<2)&&decide (trF rw fi sp mo i<mo))=true then 2*trV sp i else 1
def trR (rw:List Int) (fi:Int) (sp sn:List Int) (mo:Int) (i:Nat):Int:=if (Int.tmod (V8 sn i) 3==0)=true then -1 else Ga 3 ((Q9 rw).getD (trA rw fi sp mo i).toNat Dd)
def Q97 (rw:List Int) (fi:Int) (sp:List Int) (mo:Int):List Int:=(List.range (trM sp)).map (trS rw fi sp mo)
def Tm (rw:List Int) (fi:Int) (sp sn:List Int) (mo:Int):List Int:=(List.range (trM sp)).map (trR rw fi sp sn mo)
theorem H9 (rw:List Int):1<=HK rw/\HK rw<=25:=by unfold HK;split;omega;split<;>omega
theorem P3 (rw:List Int):(Q9 rw).length=HK rw:=by simp[Q9,H0]
theorem O8 {rw:List Int}(h:∀ x∈rw,0<=x/\x<=255) (i:Nat):Zk 3 (Q4d rw i)=true:=by have hb:=Oz h (show (0:Int)<=(i:Int) by omega);have h1:=Int.tmod_nonneg 8 hb.1;have h2:=Int.tmod_lt_of_pos (V8 rw i) (show (0:Int)<8 by omega);unfold Zk inI Q4d;simp only[z7,zk];rw[show (2:Int) ^ Int.toNat 3=8 from rfl];exact⟨⟨by decide,by decide⟩,h1,by omega⟩
theorem RG {rw:List Int}(h:∀ x∈rw,0<=x/\x<=255):∀ c∈Q9 rw,Zk 3 c=true:=λc hc=>by obtain⟨i,_,rfl⟩:=zI.1 hc;exact O8 h i
theorem IS {rw:List Int}(h:∀ x∈rw,0<=x/\x<=255):Z1 3 (Q9 rw)=0:=by
 have hl:=P3 rw;have hN:=H9 rw;unfold Z1;rw[zd (by decide),zd (by omega),zd];rintro (e|e)
 .rw[e] at hl;simp at hl;omega
 .obtain⟨c,hc,h2⟩:=xF.1 e;rw[RG h c hc] at h2;cases h2
theorem Q2c {sp:List Int}(h:∀ x∈sp,0<=x/\x<=255) {i:Nat}(hi:i<sp.length):(0<=sp.getD i 0/\sp.getD i 0<=255)/\0<=trV sp i/\trV sp i<16:=by have h1:=h _ (by rw[Qh hi];exact zr hi:sp.getD i 0∈sp);exact⟨h1,Int.tmod_nonneg 16 h1.1,Int.tmod_lt_of_pos _ (by omega)⟩
theorem Q3i (sp:List Int):trM sp<=sp.length/\trM sp<=40:=by unfold trM;split<;>omega
theorem Q2v {n:Nat}(hn:0<n) {fi:Int}(hf:0<=fi) {sp:List Int}(h:∀ x∈sp,0<=x/\x<=255) {mo:Int}(hm:0<=mo):∀ i:Nat,i<=sp.length->(0<=(trP n fi sp mo i).1/\(trP n fi sp mo i).1<=mo)/\0<=(trP n fi sp mo i).2/\(trP n fi sp mo i).2<n
 |0,_=>⟨⟨Int.le_refl _,hm⟩,Int.tmod_nonneg _ hf,Int.tmod_lt_of_pos _ (by omega)⟩
 |i+1,hi=>by
  obtain⟨⟨h1,h2⟩,h3,h4⟩:=Q2v hn hf h hm i (by omega);have hv:=(Q2c h (show i<sp.length by omega)).2;unfold trP;split
  .rename_i c;simp only[z7,zk] at c;exact⟨⟨by dsimp only;omega,by dsimp only;omega⟩,Int.tmod_nonneg _ (by omega),Int.tmod_lt_of_pos _ (by omega)⟩
  .exact⟨⟨h1,h2⟩,Int.tmod_nonneg _ (by omega),Int.tmod_lt_of_pos _ (by omega)⟩
def Nq:AL (List Int×Int):=(.cons (.k (.list (.i .u8))) (.one (.k (.i .i64))))
def BR (d:List Int×Int):Prop:=d.1.length<=9223372036854775807/\0<=d.2/\∀ x∈d.1,0<=x/\x<=255
def UG (d:List Int×Int):SV:=.val (.i .i64) (V8 d.1 d.2)
def UH (d:List Int×Int):List OB:=[]
def Y4:CSp:=V7 Nq BR UG UH
def Wc (l:List Int) (i:Int):Prop :=
 (((lI l)==(0:Int))=true ->
  ((0:Int)=(V8 l i)/\(True))) /\
 (((lI l)==(0:Int))=false ->
  ((lI l)≠0)/\(0<=(Int.tmod i (lI l)))/\((Int.tmod i (lI l))<(List.length l))/\(I64 (gD l (Int.tmod i (lI l)) 0))/\((gD l (Int.tmod i (lI l)) 0)=(V8 l i)/\(True)))
def NA:Cx:=⟨[],[],16,[],0,[],[],[],[],false,[],[],[],[]⟩
def Hr (l:List Int) (i:Int):List (Nat×LoopAnn):=[]
theorem Pp (d:List Int×Int):gwp (NA) (Hr d.1 d.2) c50 0 (Vv [.tmp 4] (UG d) (UH d)) (Qw 16 (AL.can Nq d))=Wc d.1 d.2:=by kernel_rfl
abbrev Py:Prop:=OkC Tryz.prog 50 Y4
theorem HJ (h:∀ (l:List Int) (i:Int),(l.length<=9223372036854775807/\0<=i/\∀ x∈l,0<=x/\x<=255)->Wc l i):OkC Tryz.prog 50 Y4 :=
 Z4 Q43 mixed (C:=NA) (V:=λ(d:List Int×Int)=>Wc d.1 d.2) ⟨.nil,XsOk.nil,ItsOk.nil,YlOk.nil,IysOk.nil,XfOk.nil⟩ (Pp) λd hp=>h d.1 d.2 hp
theorem NS:Py:=HJ λl i h=>by
 obtain⟨h1,h2,h3⟩:=h;unfold Wc;(try delta lI gD sT I64 NF pj8 pj4);refine⟨λhx=>?_,λhx=>?_⟩
 .have:l.length=0:=by have:=eq_of_beq hx;omega
  unfold V8;rw[z8 this];exact(by and_intros<;>first|rfl|trivial|simp)
 .have h0:l.length≠0:=by have:=ne_of_beq_false hx;omega
  have e:=Int.tmod_eq_emod_of_nonneg (b:=(l.length:Int)) h2;have g1:=Int.emod_nonneg i (show (l.length:Int)≠0 by omega);have g2:=Int.emod_lt_of_pos i (show (0:Int)<l.length by omega);have g3:(Int.tmod i l.length).toNat<l.length:=by omega
  have g4:=h3 _ (by rw[Qh g3];exact zr g3:l.getD (Int.tmod i l.length).toNat 0∈l);refine⟨by omega,by omega,by omega,by rw[Qm];omega,?_⟩;unfold V8;rw[zd h0];exact(by and_intros<;>first|rfl|trivial|simp)
def VS:AL (Int×Int):=(.cons (.k (.i .i64)) (.one (.k (.i .i64))))
def Di (d:Int×Int):Prop:=0<=d.2/\d.2<=24/\0<=d.1/\d.1<2 ^ d.2.toNat
def KZ (d:Int×Int):SV:=.val (.i .i64) (EM d.2 d.1)
def KM (d:Int×Int):List OB:=[]
def Yp:CSp:=V7 VS Di KZ KM
def X2 (r:Int) (h:Int):Prop :=
 ∃ (e2:Unit) (d20:Int×Int×Int),((r=d20.1/\h=h/\(0:Int)=d20.2.1/\(0:Int)=d20.2.2/\True)/\(True)) /\
 LoopP (λ(d2:Int×Int×Int) (q2:(Int×Int×Int)->Prop) =>
  ((decide (d2.2.2<h))=true ->
   (I64 ((2:Int)*d2.2.1))/\((2:Int)≠0)/\(I64 (((2:Int)*d2.2.1)+(Int.tmod d2.1 (2:Int))))/\((2:Int)≠0)/\(I64 (Int.tdiv d2.1 (2:Int)))/\(I64 (d2.2.2+(1:Int)))/\(∃ d3:Int×Int×Int,(((Int.tdiv d2.1 (2:Int))=d3.1/\h=h/\(((2:Int)*d2.2.1)+(Int.tmod d2.1 (2:Int)))=d3.2.1/\(d2.2.2+(1:Int))=d3.2.2/\True)/\(True))/\q2 d3)) /\
  ((decide (d2.2.2<h))=false ->
   (d2.2.1=(EM h r)/\(True)))) d20
def VX:Cx:=⟨[],[],20,[],0,[],[],[],[],false,[],[],[],[]⟩
def B9 (r:Int) (h:Int):List (Nat×LoopAnn):=[(0,⟨Unit,Int×Int×Int,[0,1,5,6],λe x=>[.val (.i .i64) x.1,.val (.i .i64) h,.val (.i .i64) x.2.1,.val (.i .i64) x.2.2],λe x=>[]⟩)]
theorem B8 (d:Int×Int):gwp (VX) (B9 d.1 d.2) c49 0 (Vv [.tmp 4] (KZ d) (KM d)) (Qw 20 (AL.can VS d))=X2 d.1 d.2:=by kernel_rfl
abbrev DD:Prop:=OkC Tryz.prog 49 Yp
theorem DM (h:∀ (r:Int) (h:Int),(0<=h/\h<=24/\0<=r/\r<2 ^ h.toNat)->X2 r h):OkC Tryz.prog 49 Yp :=
 Z4 Q5o mixed (C:=VX) (V:=λ(d:Int×Int)=>X2 d.1 d.2) ⟨.nil,XsOk.nil,ItsOk.nil,YlOk.nil,IysOk.nil,XfOk.nil⟩ (B8) λd hp=>h d.1 d.2 hp
theorem DH:DD:=DM λr h hp=>by
 obtain⟨h1,h2,h3,h4⟩:=hp;obtain⟨f,rfl⟩:=xm h1;obtain⟨n,rfl⟩:=xm h3;unfold X2;(try delta lI gD sT I64 NF pj8 pj4);simp only[zw,Ha] at h4;have hp:=OL (k:=f) (by omega);have h4:n<2 ^ f:=by omega
 refine⟨(),((n:Int),0,0),(by and_intros<;>first|rfl|trivial),?_⟩;refine⟨λd=>∃ k:Nat,k<=f/\d=(((n / 2 ^ k:Nat):Int),((Bc k n:Nat):Int),(k:Int)),λd=>f-d.2.2.toNat,⟨0,Nat.zero_le _,by simp[Bc]⟩,?_⟩;rintro _ ⟨k,hk,rfl⟩;dsimp only;have ah:=Rj k n;have wi:=OL (k:=k) (by omega);refine⟨λc=>?_,λc=>?_⟩
 .have hk:k<f:=by have:=xh c;omega
  have e1:Int.tmod ((n / 2 ^ k:Nat):Int) 2=((n / 2 ^ k % 2:Nat):Int):=rfl;have e2:Int.tdiv ((n / 2 ^ k:Nat):Int) 2=((n / 2 ^ (k+1):Nat):Int):=by rw[Nat.pow_succ,<-Nat.div_div_eq_div_mul];rfl
  have hd:n / 2 ^ k<=n:=Nat.div_le_self ..;have kG:n / 2 ^ (k+1)<=n:=Nat.div_le_self ..;rw[e1,e2];have hq:∀ x:Nat,x<=n->InK .i64 (x:Int):=λx hx=>by rw[Qm];omega
  have ij:n / 2 ^ k % 2<=1:=by omega
  refine⟨by rw[Qm];omega,by decide,by generalize n / 2 ^ k % 2=B at *;rw[Qm];omega,by decide,hq _ kG,by rw[Qm];omega,(((n / 2 ^ (k+1):Nat):Int),((Bc (k+1) n:Nat):Int),((k+1:Nat):Int)),?_,⟨k+1,hk,rfl⟩,by dsimp only;omega⟩;have e3:2*((Bc k n:Nat):Int)+((n / 2 ^ k % 2:Nat):Int)=((Bc (k+1) n:Nat):Int):=by rw[Bc];push_cast;rfl
  and_intros<;>first|rfl|trivial|exact e3
 .have hk:k=f:=by have:=xD c;omega
  subst hk;have e:((Bc k n:Nat):Int)=EM (k:Int) (n:Int):=by unfold EM;simp
  and_intros<;>first|rfl|trivial|exact e
def K4:AL (List Int×Int×List Int×List Int):=(.one (.agg (.cons (.k (.list (.i .u8))) (.cons (.k (.i .u8)) (.cons (.k (.list (.i .u8))) (.one (.k (.list (.i .u8)))))))))
def Mv (d:List Int×Int×List Int×List Int):Prop:=d.1.length<=9223372036854775807/\(∀ x∈d.1,0<=x/\x<=255)/\0<=d.2.1/\d.2.1<=255/\d.2.2.1.length<=9223372036854775807/\(∀ x∈d.2.2.1,0<=x/\x<=255)/\d.2.2.2.length<=9223372036854775807/\(∀ x∈d.2.2.2,0<=x/\x<=255)
def Yx (d:List Int×Int×List Int×List Int):SV:=.agg [.val (.i .i64) (3:Int),.lst 0]
def Yu (d:List Int×Int×List Int×List Int):List OB:=[.lst 87 (.pair (.i .i64) (.pair (.i .i64) .bo)) (Q9 d.1) false]
def JK:CSp:=V7 K4 Mv Yx Yu
def Jl (rw:List Int) (fi:Int) (sp:List Int) (sn:List Int):Prop :=
 ∃ (e4:Unit) (d40:(List (Int×Int×Bool))×Int),((True/\True/\True/\(0:Int)=d40.2/\True)/\((rw=rw/\fi=fi/\sp=sp/\sn=sn/\(([]:List SV)=[]))/\((0:Int)=(0:Int)/\True/\(([]:List SV)=[]))/\((3:Int)=(3:Int)/\True/\(([]:List SV)=[]))/\(d40.1=[]/\(List.isEmpty d40.1)=true)/\True)) /\
 LoopP (λ(d4:(List (Int×Int×Bool))×Int) (q4:((List (Int×Int×Bool))×Int)->Prop) =>
  (((d4.2==(0:Int))||((decide (d4.2<(lI rw)))&&(decide (d4.2<(25:Int)))))=true ->
   (rw.length<=9223372036854775807/\0<=d4.2/\∀ x∈rw,0<=x/\x<=255)/\((8:Int)≠0)/\(((List.length d4.1)+(List.length [((-1:Int),((Int.tmod (V8 rw d4.2) (8:Int)),(decide ((V8 rw d4.2)>=(128:Int)))))]))*24<=70368744177664)/\(I64 (d4.2+(1:Int)))/\(∃ d5:(List (Int×Int×Bool))×Int,((True/\True/\True/\(d4.2+(1:Int))=d5.2/\True)/\((rw=rw/\fi=fi/\sp=sp/\sn=sn/\(([]:List SV)=[]))/\((0:Int)=(0:Int)/\True/\(([]:List SV)=[]))/\((3:Int)=(3:Int)/\True/\(([]:List SV)=[]))/\((d4.1++[((-1:Int),((Int.tmod (V8 rw d4.2) (8:Int)),(decide ((V8 rw d4.2)>=(128:Int)))))])=d5.1/\false=(List.isEmpty d5.1))/\True))/\q4 d5)) /\
  (((d4.2==(0:Int))||((decide (d4.2<(lI rw)))&&(decide (d4.2<(25:Int)))))=false ->
   (((3:Int)=(3:Int)/\True/\(([]:List SV)=[]))/\((d4.1=(Q9 rw)/\(List.isEmpty d4.1)=false)/\True)))) d40
def Kn:Cx:=⟨[(87,(.pair (.i .i64) (.pair (.i .i64) .bo)))],[(50,Y4)],37,[],0,[],[],[],[],false,[],[],[],[]⟩
def G5 (rw:List Int) (fi:Int) (sp:List Int) (sn:List Int):List (Nat×LoopAnn):=[(0,⟨Unit,(List (Int×Int×Bool))×Int,[1,2,3,4],λe x=>[.box 1 0,.box 2 0,.box 3 0,.val (.i .i64) x.2],λe x=>[(1,.slot 1,.cells [.val (.list (.i .u8)) rw,.val (.i .u8) fi,.val (.list (.i .u8)) sp,.val (.list (.i .u8)) sn] (some 98)),(2,.slot 2,.cells [.val (.i .i64) (0:Int),.nilS] (some 24)),(3,.slot 3,.cells [.val (.i .i64) (3:Int),.lst 34] (some 24)),(34,.cell 3 1,.lst 87 (.pair (.i .i64) (.pair (.i .i64) .bo)) x.1 (List.isEmpty x.1))]⟩)]
theorem Gh (d:List Int×Int×List Int×List Int):gwp (Kn) (G5 d.1 d.2.1 d.2.2.1 d.2.2.2) c53 0 (Vv [.cell 2 true 2] (Yx d) (Yu d)) (Qw 37 (AL.can K4 d))=Jl d.1 d.2.1 d.2.2.1 d.2.2.2:=by kernel_rfl
abbrev Gn:Prop:=OkC Tryz.prog 53 JK
theorem G0 (h:∀ (rw:List Int) (fi:Int) (sp:List Int) (sn:List Int),(rw.length<=9223372036854775807/\(∀ x∈rw,0<=x/\x<=255)/\0<=fi/\fi<=255/\sp.length<=9223372036854775807/\(∀ x∈sp,0<=x/\x<=255)/\sn.length<=9223372036854775807/\(∀ x∈sn,0<=x/\x<=255))->Jl rw fi sp sn):OkC Tryz.prog 53 JK :=
 Z4 Q5d mixed (C:=Kn) (V:=λ(d:List Int×Int×List Int×List Int)=>Jl d.1 d.2.1 d.2.2.1 d.2.2.2) ⟨(.cons NS .nil),XsOk.nil,ItsOk.nil,YlOk.nil,IysOk.nil,XfOk.nil⟩ (Gh) λd hp=>h d.1 d.2.1 d.2.2.1 d.2.2.2 hp
theorem Kj:Gn:=G0 λrw fi sp sn h=>by
 obtain⟨h1,h2,-⟩:=h;have hN:=H9 rw;unfold Jl;(try delta lI gD sT I64 NF pj8 pj4);refine⟨(),([],0),(by and_intros<;>first|rfl|trivial),?_⟩;refine⟨λd=>∃ k:Nat,k<=HK rw/\d=(H0 rw k,(k:Int)),λd=>HK rw-d.2.toNat,⟨0,by omega,rfl⟩,?_⟩;rintro _ ⟨k,hk,rfl⟩;dsimp only;have hc:(((k:Int)==0)||(decide ((k:Int)<rw.length)&&decide ((k:Int)<25)))=decide (k<HK rw):=by rw[Bool.eq_iff_iff];simp only[zC,z7,zk,zT];unfold HK at hk |-;split at hk<;>(try split at hk)<;>(try split)<;>(try split)<;>omega
 rw[hc];have hl:(H0 rw k).length=k:=by simp[H0]
 have he:H0 rw k++[(-1,(Int.tmod (V8 rw k) 8,decide (V8 rw k>=128)))]=H0 rw (k+1):=by unfold H0;rw[List.range_succ,xQ];rfl
 refine⟨λc=>?_,λc=>?_⟩
 .have c:=xh c;refine⟨⟨h1,by omega,h2⟩,by decide,?_,by rw[Qm];omega,(H0 rw (k+1),((k+1:Nat):Int)),?_,⟨k+1,by omega,rfl⟩,by dsimp only;omega⟩
  .rw[hl,xp];omega
  .have aB:false=(H0 rw (k+1)).isEmpty:=by
    rw[<-he];cases H0 rw k<;>rfl
   rw[he];and_intros<;>first|rfl|trivial|exact aB|(push_cast;rfl)
 .have c:=xD c;obtain rfl:k=HK rw:=by omega
  have aB:(H0 rw (HK rw)).isEmpty=false:=by rw[List.isEmpty_eq_false_iff];intro e;rw[e] at hl;simp at hl;omega
  and_intros<;>first|rfl|trivial|exact aB
def Yy:AL ((List Int×Int×List Int×List Int)×Int):=(.cons (.agg (.cons (.k (.list (.i .u8))) (.cons (.k (.i .u8)) (.cons (.k (.list (.i .u8))) (.one (.k (.list (.i .u8)))))))) (.one (.k (.i .i64))))
def NW (d:(List Int×Int×List Int×List Int)×Int):Prop:=d.1.1.length<=9223372036854775807/\(∀ x∈d.1.1,0<=x/\x<=255)/\0<=d.1.2.1/\d.1.2.1<=255/\d.1.2.2.1.length<=9223372036854775807/\(∀ x∈d.1.2.2.1,0<=x/\x<=255)/\d.1.2.2.2.length<=9223372036854775807/\(∀ x∈d.1.2.2.2,0<=x/\x<=255)/\0<=d.2/\d.2<=6
def Y6 (d:(List Int×Int×List Int×List Int)×Int):SV:=.tup [.val (.i .i64) (trA d.1.1 d.1.2.1 d.1.2.2.1 d.2 0),.lst 0,.lst 1,.val (.i .i64) (trF d.1.1 d.1.2.1 d.1.2.2.1 d.2 (trM d.1.2.2.1)),.val (.i .i64) (trA d.1.1 d.1.2.1 d.1.2.2.1 d.2 (trM d.1.2.2.1))]
def Yd (d:(List Int×Int×List Int×List Int)×Int):List OB:=[.lst 3 (.i .i64) (Q97 d.1.1 d.1.2.1 d.1.2.2.1 d.2) ((Q97 d.1.1 d.1.2.1 d.1.2.2.1 d.2).isEmpty),.lst 3 (.i .i64) (Tm d.1.1 d.1.2.1 d.1.2.2.1 d.1.2.2.2 d.2) ((Tm d.1.1 d.1.2.1 d.1.2.2.1 d.1.2.2.2 d.2).isEmpty)]
def XC:CSp:=V7 Yy NW Y6 Yd
def J4 (rw:List Int) (fi:Int) (sp:List Int) (sn:List Int) (mo:Int):Prop :=
 (rw.length<=9223372036854775807/\(∀ x∈rw,0<=x/\x<=255)/\0<=fi/\fi<=255/\sp.length<=9223372036854775807/\(∀ x∈sp,0<=x/\x<=255)/\sn.length<=9223372036854775807/\(∀ x∈sn,0<=x/\x<=255))/\(I64 fi)/\((lI (Q9 rw))≠0)/\∃ (e4:Unit) (d40:(List Int)×(List Int)×Int×Int×Int),((mo=mo/\True/\(Int.tmod fi (lI (Q9 rw)))=(Int.tmod fi (lI (Q9 rw)))/\True/\True/\(0:Int)=d40.2.2.1/\(Int.tmod fi (lI (Q9 rw)))=d40.2.2.2.1/\True/\(0:Int)=(pj4 d40)/\True)/\((rw=rw/\fi=fi/\sp=sp/\sn=sn/\(([]:List SV)=[]))/\(d40.1=[]/\(List.isEmpty d40.1)=true)/\(d40.2.1=[]/\(List.isEmpty d40.2.1)=true)/\((3:Int)=(3:Int)/\True/\(([]:List SV)=[]))/\((Q9 rw)=(Q9 rw)/\false=false)/\True)) /\
 LoopP (λ(d4:(List Int)×(List Int)×Int×Int×Int) (q4:((List Int)×(List Int)×Int×Int×Int)->Prop) =>
  (((decide ((pj4 d4)<(lI sp)))&&(decide ((pj4 d4)<(40:Int))))=true ->
   (0<=(pj4 d4))/\((pj4 d4)<(List.length sp))/\(I64 (gD sp (pj4 d4) 0))/\((16:Int)≠0)/\∃ (e7:(List Int)×(List Int)×Int×Int),Q69 (λ(q7:(Int×Int)->Prop) =>
   (((decide ((Int.tmod (gD sp (pj4 d4) 0) (16:Int))<(2:Int)))&&(decide (d4.2.2.1<mo)))=true ->
    (I64 ((2:Int)*(Int.tmod (gD sp (pj4 d4) 0) (16:Int))))/\(I64 (d4.2.2.1+(1:Int)))/\(∃ d8:Int×Int,((mo=mo/\True/\(Int.tmod fi (lI (Q9 rw)))=(Int.tmod fi (lI (Q9 rw)))/\True/\True/\(d4.2.2.1+(1:Int))=d8.1/\d4.2.2.2.1=e7.2.2.1/\True/\(pj4 d4)=e7.2.2.2/\((2:Int)*(Int.tmod (gD sp (pj4 d4) 0) (16:Int)))=d8.2/\True)/\((rw=rw/\fi=fi/\sp=sp/\sn=sn/\(([]:List SV)=[]))/\(d4.1=e7.1/\(List.isEmpty d4.1)=(List.isEmpty e7.1))/\(d4.2.1=e7.2.1/\(List.isEmpty d4.2.1)=(List.isEmpty e7.2.1))/\((3:Int)=(3:Int)/\True/\(([]:List SV)=[]))/\((Q9 rw)=(Q9 rw)/\false=false)/\True))/\q7 d8)) /\
   (((decide ((Int.tmod (gD sp (pj4 d4) 0) (16:Int))<(2:Int)))&&(decide (d4.2.2.1<mo)))=false ->
    (∃ d9:Int×Int,((mo=mo/\True/\(Int.tmod fi (lI (Q9 rw)))=(Int.tmod fi (lI (Q9 rw)))/\True/\True/\d4.2.2.1=d9.1/\d4.2.2.2.1=e7.2.2.1/\True/\(pj4 d4)=e7.2.2.2/\(1:Int)=d9.2/\True)/\((rw=rw/\fi=fi/\sp=sp/\sn=sn/\(([]:List SV)=[]))/\(d4.1=e7.1/\(List.isEmpty d4.1)=(List.isEmpty e7.1))/\(d4.2.1=e7.2.1/\(List.isEmpty d4.2.1)=(List.isEmpty e7.2.1))/\((3:Int)=(3:Int)/\True/\(([]:List SV)=[]))/\((Q9 rw)=(Q9 rw)/\false=false)/\True))/\q7 d9)))
   (λ(d7:Int×Int) =>
    (0<=e7.2.2.1)/\(e7.2.2.1<(List.length (Q9 rw)))/\∃ (cJ:(List Int)×(List Int)×Int×Int×Int×Int),Q69 (λ(sZ:(Int)->Prop) =>
    ((gD (Q9 rw) e7.2.2.1 (0,(0,false))).2.2=true ->
     (0<=(3:Int)/\(3:Int)<=24/\0<=((gD (Q9 rw) e7.2.2.1 (0,(0,false))).2.1)/\((gD (Q9 rw) e7.2.2.1 (0,(0,false))).2.1)<2 ^ (3:Int).toNat)/\(∃ d13:Int,((mo=mo/\True/\(Int.tmod fi (lI (Q9 rw)))=(Int.tmod fi (lI (Q9 rw)))/\True/\True/\d7.1=cJ.2.2.1/\e7.2.2.1=cJ.2.2.2.1/\True/\e7.2.2.2=(pj4 cJ).1/\d7.2=(pj4 cJ).2/\(EM (3:Int) ((gD (Q9 rw) e7.2.2.1 (0,(0,false))).2.1))=d13/\True)/\((rw=rw/\fi=fi/\sp=sp/\sn=sn/\(([]:List SV)=[]))/\(e7.1=cJ.1/\(List.isEmpty e7.1)=(List.isEmpty cJ.1))/\(e7.2.1=cJ.2.1/\(List.isEmpty e7.2.1)=(List.isEmpty cJ.2.1))/\((3:Int)=(3:Int)/\True/\(([]:List SV)=[]))/\((Q9 rw)=(Q9 rw)/\false=false)/\True))/\sZ d13)) /\
    ((gD (Q9 rw) e7.2.2.1 (0,(0,false))).2.2=false ->
     (∃ d14:Int,((mo=mo/\True/\(Int.tmod fi (lI (Q9 rw)))=(Int.tmod fi (lI (Q9 rw)))/\True/\True/\d7.1=cJ.2.2.1/\e7.2.2.1=cJ.2.2.2.1/\True/\e7.2.2.2=(pj4 cJ).1/\d7.2=(pj4 cJ).2/\(gD (Q9 rw) e7.2.2.1 (0,(0,false))).2.1=d14/\True)/\((rw=rw/\fi=fi/\sp=sp/\sn=sn/\(([]:List SV)=[]))/\(e7.1=cJ.1/\(List.isEmpty e7.1)=(List.isEmpty cJ.1))/\(e7.2.1=cJ.2.1/\(List.isEmpty e7.2.1)=(List.isEmpty cJ.2.1))/\((3:Int)=(3:Int)/\True/\(([]:List SV)=[]))/\((Q9 rw)=(Q9 rw)/\false=false)/\True))/\sZ d14)))
    (λ(d12:Int) =>
     (sn.length<=9223372036854775807/\0<=(pj4 cJ).1/\∀ x∈sn,0<=x/\x<=255)/\((3:Int)≠0)/\∃ (df:(List Int)×(List Int)×Int×Int×Int×Int),Q69 (λ(p5:(Int)->Prop) =>
     (((Int.tmod (V8 sn (pj4 cJ).1) (3:Int))==(0:Int))=true ->
      (∃ d18:Int,((mo=mo/\True/\(Int.tmod fi (lI (Q9 rw)))=(Int.tmod fi (lI (Q9 rw)))/\True/\True/\cJ.2.2.1=df.2.2.1/\cJ.2.2.2.1=df.2.2.2.1/\True/\(pj4 cJ).1=(pj4 df).1/\(pj4 cJ).2=(pj4 df).2/\(-1:Int)=d18/\True)/\((rw=rw/\fi=fi/\sp=sp/\sn=sn/\(([]:List SV)=[]))/\(cJ.1=df.1/\(List.isEmpty cJ.1)=(List.isEmpty df.1))/\(cJ.2.1=df.2.1/\(List.isEmpty cJ.2.1)=(List.isEmpty df.2.1))/\((3:Int)=(3:Int)/\True/\(([]:List SV)=[]))/\((Q9 rw)=(Q9 rw)/\false=false)/\True))/\p5 d18)) /\
     (((Int.tmod (V8 sn (pj4 cJ).1) (3:Int))==(0:Int))=false ->
      (∃ d19:Int,((mo=mo/\True/\(Int.tmod fi (lI (Q9 rw)))=(Int.tmod fi (lI (Q9 rw)))/\True/\True/\cJ.2.2.1=df.2.2.1/\cJ.2.2.2.1=df.2.2.2.1/\True/\(pj4 cJ).1=(pj4 df).1/\(pj4 cJ).2=(pj4 df).2/\d12=d19/\True)/\((rw=rw/\fi=fi/\sp=sp/\sn=sn/\(([]:List SV)=[]))/\(cJ.1=df.1/\(List.isEmpty cJ.1)=(List.isEmpty df.1))/\(cJ.2.1=df.2.1/\(List.isEmpty cJ.2.1)=(List.isEmpty df.2.1))/\((3:Int)=(3:Int)/\True/\(([]:List SV)=[]))/\((Q9 rw)=(Q9 rw)/\false=false)/\True))/\p5 d19)))
     (λ(d17:Int) =>
      (((List.length df.1)+(List.length [(pj4 df).2]))*8<=70368744177664)/\(((List.length df.2.1)+(List.length [d17]))*8<=70368744177664)/\(I64 (df.2.2.2.1+(pj4 df).2))/\((lI (Q9 rw))≠0)/\(I64 ((pj4 df).1+(1:Int)))/\(∃ d20:(List Int)×(List Int)×Int×Int×Int,((mo=mo/\True/\(Int.tmod fi (lI (Q9 rw)))=(Int.tmod fi (lI (Q9 rw)))/\True/\True/\df.2.2.1=d20.2.2.1/\(Int.tmod (df.2.2.2.1+(pj4 df).2) (lI (Q9 rw)))=d20.2.2.2.1/\True/\((pj4 df).1+(1:Int))=(pj4 d20)/\True)/\((rw=rw/\fi=fi/\sp=sp/\sn=sn/\(([]:List SV)=[]))/\((df.1++[(pj4 df).2])=d20.1/\false=(List.isEmpty d20.1))/\((df.2.1++[d17])=d20.2.1/\false=(List.isEmpty d20.2.1))/\((3:Int)=(3:Int)/\True/\(([]:List SV)=[]))/\((Q9 rw)=(Q9 rw)/\false=false)/\True))/\q4 d20))))) /\
  (((decide ((pj4 d4)<(lI sp)))&&(decide ((pj4 d4)<(40:Int))))=false ->
   (((Int.tmod fi (lI (Q9 rw)))=(trA rw fi sp mo 0)/\True/\True/\d4.2.2.1=(trF rw fi sp mo (trM sp))/\d4.2.2.2.1=(trA rw fi sp mo (trM sp))/\(([]:List SV)=[]))/\((d4.1=(Q97 rw fi sp mo)/\(List.isEmpty d4.1)=(Q97 rw fi sp mo).isEmpty)/\(d4.2.1=(Tm rw fi sp sn mo)/\(List.isEmpty d4.2.1)=(Tm rw fi sp sn mo).isEmpty)/\True)))) d40
def YC:Cx:=⟨[(3,(.i .i64))],[(53,JK),(49,Yp),(50,Y4)],91,[],0,[],[],[],[],false,[],[],[],[]⟩
def Ms (rw:List Int) (fi:Int) (sp:List Int) (sn:List Int) (mo:Int):List (Nat×LoopAnn):=[(0,⟨Unit,(List Int)×(List Int)×Int×Int×Int,[1,2,4,5,6,7,8,9,10],λe x=>[.val (.i .i64) mo,.box 2 0,.val (.i .i64) (Int.tmod fi (((List.length (Q9 rw)):Nat):Int)),.lst 74,.lst 78,.val (.i .i64) x.2.2.1,.val (.i .i64) x.2.2.2.1,.box 9 0,.val (.i .i64) x.2.2.2.2],λe x=>[(2,.slot 2,.cells [.val (.list (.i .u8)) rw,.val (.i .u8) fi,.val (.list (.i .u8)) sp,.val (.list (.i .u8)) sn] (some 98)),(74,.slot 5,.lst 3 (.i .i64) x.1 (List.isEmpty x.1)),(78,.slot 6,.lst 3 (.i .i64) x.2.1 (List.isEmpty x.2.1)),(9,.slot 9,.cells [.val (.i .i64) (3:Int),.lst 16] (some 24)),(16,.cell 9 1,.lst 87 (.pair (.i .i64) (.pair (.i .i64) .bo)) (Q9 rw) false)]⟩),
 (3000049,⟨(List Int)×(List Int)×Int×Int,Int×Int,[1,2,4,5,6,7,8,9,10,11],λe x=>[.val (.i .i64) mo,.box 2 0,.val (.i .i64) (Int.tmod fi (((List.length (Q9 rw)):Nat):Int)),.lst 74,.lst 78,.val (.i .i64) x.1,.val (.i .i64) e.2.2.1,.box 9 0,.val (.i .i64) e.2.2.2,.val (.i .i64) x.2],λe x=>[(2,.slot 2,.cells [.val (.list (.i .u8)) rw,.val (.i .u8) fi,.val (.list (.i .u8)) sp,.val (.list (.i .u8)) sn] (some 98)),(74,.slot 5,.lst 3 (.i .i64) e.1 (List.isEmpty e.1)),(78,.slot 6,.lst 3 (.i .i64) e.2.1 (List.isEmpty e.2.1)),(9,.slot 9,.cells [.val (.i .i64) (3:Int),.lst 16] (some 24)),(16,.cell 9 1,.lst 87 (.pair (.i .i64) (.pair (.i .i64) .bo)) (Q9 rw) false)]⟩),
 (3000062,⟨(List Int)×(List Int)×Int×Int×Int×Int,Int,[1,2,4,5,6,7,8,9,10,11,14],λe x=>[.val (.i .i64) mo,.box 2 0,.val (.i .i64) (Int.tmod fi (((List.length (Q9 rw)):Nat):Int)),.lst 74,.lst 78,.val (.i .i64) e.2.2.1,.val (.i .i64) e.2.2.2.1,.box 9 0,.val (.i .i64) e.2.2.2.2.1,.val (.i .i64) e.2.2.2.2.2,.val (.i .i64) x],λe x=>[(2,.slot 2,.cells [.val (.list (.i .u8)) rw,.val (.i .u8) fi,.val (.list (.i .u8)) sp,.val (.list (.i .u8)) sn] (some 98)),(74,.slot 5,.lst 3 (.i .i64) e.1 (List.isEmpty e.1)),(78,.slot 6,.lst 3 (.i .i64) e.2.1 (List.isEmpty e.2.1)),(9,.slot 9,.cells [.val (.i .i64) (3:Int),.lst 16] (some 24)),(16,.cell 9 1,.lst 87 (.pair (.i .i64) (.pair (.i .i64) .bo)) (Q9 rw) false)]⟩),
 (3000070,⟨(List Int)×(List Int)×Int×Int×Int×Int,Int,[1,2,4,5,6,7,8,9,10,11,14],λe x=>[.val (.i .i64) mo,.box 2 0,.val (.i .i64) (Int.tmod fi (((List.length (Q9 rw)):Nat):Int)),.lst 74,.lst 78,.val (.i .i64) e.2.2.1,.val (.i .i64) e.2.2.2.1,.box 9 0,.val (.i .i64) e.2.2.2.2.1,.val (.i .i64) e.2.2.2.2.2,.val (.i .i64) x],λe x=>[(2,.slot 2,.cells [.val (.list (.i .u8)) rw,.val (.i .u8) fi,.val (.list (.i .u8)) sp,.val (.list (.i .u8)) sn] (some 98)),(74,.slot 5,.lst 3 (.i .i64) e.1 (List.isEmpty e.1)),(78,.slot 6,.lst 3 (.i .i64) e.2.1 (List.isEmpty e.2.1)),(9,.slot 9,.cells [.val (.i .i64) (3:Int),.lst 16] (some 24)),(16,.cell 9 1,.lst 87 (.pair (.i .i64) (.pair (.i .i64) .bo)) (Q9 rw) false)]⟩)]
theorem Mu (d:(List Int×Int×List Int×List Int)×Int):gwp (YC) (Ms d.1.1 d.1.2.1 d.1.2.2.1 d.1.2.2.2 d.2) c54 0 (Vv [.tmp 4,.tmp 5,.tmp 6,.tmp 7,.tmp 8] (Y6 d) (Yd d)) (Qw 91 (AL.can Yy d))=J4 d.1.1 d.1.2.1 d.1.2.2.1 d.1.2.2.2 d.2:=by kernel_rfl
abbrev Mw:Prop:=OkC Tryz.prog 54 XC
theorem MA (h:∀ (rw:List Int) (fi:Int) (sp:List Int) (sn:List Int) (mo:Int),(rw.length<=9223372036854775807/\(∀ x∈rw,0<=x/\x<=255)/\0<=fi/\fi<=255/\sp.length<=9223372036854775807/\(∀ x∈sp,0<=x/\x<=255)/\sn.length<=9223372036854775807/\(∀ x∈sn,0<=x/\x<=255)/\0<=mo/\mo<=6)->J4 rw fi sp sn mo):OkC Tryz.prog 54 XC :=
 Z4 Q56 mixed (C:=YC) (V:=λ(d:(List Int×Int×List Int×List Int)×Int)=>J4 d.1.1 d.1.2.1 d.1.2.2.1 d.1.2.2.2 d.2) ⟨(.cons Kj (.cons DH (.cons NS .nil))),XsOk.nil,ItsOk.nil,YlOk.nil,IysOk.nil,XfOk.nil⟩ (Mu) λd hp=>h d.1.1 d.1.2.1 d.1.2.2.1 d.1.2.2.2 d.2 hp
set_option maxHeartbeats 1000000 in
theorem Mr:Mw:=MA λrw fi sp sn mo h=>by
 obtain⟨⟨h1,h2,h3,h4,h5,h6,h7,h8⟩,h9,bS⟩:(rw.length<=9223372036854775807/\(∀ x∈rw,0<=x/\x<=255)/\0<=fi/\fi<=255/\sp.length<=9223372036854775807/\(∀ x∈sp,0<=x/\x<=255)/\sn.length<=9223372036854775807/\(∀ x∈sn,0<=x/\x<=255))/\0<=mo/\mo<=6:=⟨⟨h.1,h.2.1,h.2.2.1,h.2.2.2.1,h.2.2.2.2.1,h.2.2.2.2.2.1,h.2.2.2.2.2.2.1,h.2.2.2.2.2.2.2.1⟩,h.2.2.2.2.2.2.2.2.1,h.2.2.2.2.2.2.2.2.2⟩;have hN:=H9 rw;have hl:=P3 rw;have hM:=Q3i sp;unfold J4;(try delta lI gD sT I64 NF pj8 pj4);simp only[true_and,and_true];have hb:=Q2v (n:=(Q9 rw).length) (by omega) h3 h6 h9;refine⟨⟨h1,h2,h3,h4,h5,h6,h7,h8⟩,by rw[Qm];omega,by omega,(),([],[],0,Int.tmod fi (Q9 rw).length,0),(by and_intros<;>first|rfl|trivial),?_⟩;refine⟨λd=>∃ k:Nat,k<=trM sp/\d=((List.range k).map (trS rw fi sp mo),(List.range k).map (trR rw fi sp sn mo),trF rw fi sp mo k,trA rw fi sp mo k,(k:Int)),λd=>trM sp-d.2.2.2.2.toNat,⟨0,Nat.zero_le _,rfl⟩,?_⟩;rintro _ ⟨k,hk,rfl⟩;dsimp only;have hc:(decide ((k:Int)<sp.length)&&decide ((k:Int)<40))=decide (k<trM sp):=by rw[Bool.eq_iff_iff];simp only[z7,zk];unfold trM;split<;>omega
 rw[hc];refine⟨λc=>?_,λc=>?_⟩
 .have c:=xh c;have jC:k<sp.length:=by omega
  have hv:=Q2c h6 jC;have vq:=hb k (by omega);have wj:trA rw fi sp mo k=(trP (Q9 rw).length fi sp mo k).2:=rfl;have wk:trF rw fi sp mo k=(trP (Q9 rw).length fi sp mo k).1:=rfl;have gH:Int.tmod (sp.getD k 0) 16=trV sp k:=rfl;have s5:(trA rw fi sp mo k).toNat<(Q9 rw).length:=by omega
  have qf:=RG h2 _ (by rw[Qh s5];exact zr s5:(Q9 rw).getD (trA rw fi sp mo k).toNat Dd∈Q9 rw);have b8:=DX qf;have nw:trS rw fi sp mo k=if (decide (trV sp k<2)&&decide (trF rw fi sp mo k<mo))=true then 2*trV sp k else 1:=rfl
  have jJ:trF rw fi sp mo (k+1)=if (decide (trV sp k<2)&&decide (trF rw fi sp mo k<mo))=true then trF rw fi sp mo k+1 else trF rw fi sp mo k:=by unfold trF;rw[trP];split<;>rfl
  have vu:trA rw fi sp mo (k+1)=Int.tmod (trA rw fi sp mo k+trS rw fi sp mo k) (Q9 rw).length:=by rw[nw];unfold trA trF;rw[trP];split<;>rfl
  have p6:trR rw fi sp sn mo k=if (Int.tmod (V8 sn k) 3==0)=true then -1 else Ga 3 ((Q9 rw).getD (trA rw fi sp mo k).toNat Dd):=rfl
  have wm:0<=trS rw fi sp mo k/\trS rw fi sp mo k<=2:=by
   rw[nw];split
   .rename_i c;simp only[z7,zk] at c;omega
   .omega
  have pc:(List.range k).map (trS rw fi sp mo)++[trS rw fi sp mo k]=(List.range (k+1)).map (trS rw fi sp mo):=by rw[List.range_succ,xQ];rfl
  have mO:(List.range k).map (trR rw fi sp sn mo)++[trR rw fi sp sn mo k]=(List.range (k+1)).map (trR rw fi sp sn mo):=by rw[List.range_succ,xQ];rfl
  have aB:∀ (l:List Int) (a:Int),false=(l++[a]).isEmpty:=λl a=>by cases l<;>rfl
  have fL:=aB ((List.range k).map (trS rw fi sp mo)) (trS rw fi sp mo k);have dT:=aB ((List.range k).map (trR rw fi sp sn mo)) (trR rw fi sp sn mo k);rw[pc] at fL;rw[mO] at dT;simp only[zw,gH];refine⟨by omega,by omega,by rw[Qm];omega,by decide,((List.range k).map (trS rw fi sp mo),(List.range k).map (trR rw fi sp sn mo),trA rw fi sp mo k,(k:Int)),λd=>d=(trF rw fi sp mo (k+1),trS rw fi sp mo k),⟨λc1=>?_,λc1=>?_⟩,?_⟩
  .rw[z8 c1] at jJ nw;simp only[z7,zk] at c1;exact⟨by rw[Qm];omega,by rw[Qm];omega,(trF rw fi sp mo k+1,2*trV sp k),by and_intros<;>rfl,by rw[jJ,nw]⟩
  .rw[zd (by rw[c1];decide)] at jJ nw;exact⟨(trF rw fi sp mo k,1),by and_intros<;>rfl,by rw[jJ,nw]⟩
  rintro _ rfl;dsimp only;refine⟨by omega,by omega,((List.range k).map (trS rw fi sp mo),(List.range k).map (trR rw fi sp sn mo),trF rw fi sp mo (k+1),trA rw fi sp mo k,(k:Int),trS rw fi sp mo k),λd=>d=Ga 3 ((Q9 rw).getD (trA rw fi sp mo k).toNat Dd),⟨λc1=>?_,λc1=>?_⟩,?_⟩
  .refine⟨⟨by decide,by decide,b8.1,b8.2⟩,_,by and_intros<;>rfl,?_⟩;unfold Ga;rw[z8 (show ((Q9 rw).getD (trA rw fi sp mo k).toNat Dd).2.2=true from c1)];rfl
  .refine⟨_,by and_intros<;>rfl,?_⟩;unfold Ga;rw[zd (show ¬ ((Q9 rw).getD (trA rw fi sp mo k).toNat Dd).2.2=true from λe=>by rw[show ((Q9 rw).getD (trA rw fi sp mo k).toNat (0,0,false)).2.2=true from e] at c1;cases c1)];rfl
  rintro _ rfl;dsimp only;refine⟨⟨h7,by omega,h8⟩,by decide,((List.range k).map (trS rw fi sp mo),(List.range k).map (trR rw fi sp sn mo),trF rw fi sp mo (k+1),trA rw fi sp mo k,(k:Int),trS rw fi sp mo k),λd=>d=trR rw fi sp sn mo k,⟨λc1=>?_,λc1=>?_⟩,?_⟩
  .rw[z8 c1] at p6;exact⟨_,by and_intros<;>rfl,p6.symm⟩
  .rw[zd (by rw[c1];decide)] at p6;exact⟨_,by and_intros<;>rfl,p6.symm⟩
  rintro _ rfl;dsimp only;rw[pc,mO,<-vu];refine⟨by simp;omega,by simp;omega,by rw[Qm];omega,by omega,by rw[Qm];omega,(_,_,_,_,_),(by and_intros<;>first|rfl|exact fL|exact dT),⟨k+1,by omega,rfl⟩,by dsimp only;omega⟩
 .have c:=xD c;obtain rfl:k=trM sp:=by omega
  have e:(List.range (trM sp)).map (trS rw fi sp mo)=Q97 rw fi sp mo:=rfl;and_intros<;>first|rfl|trivial
end Go.Proofs.Tryz
namespace Go.Proofs
open Go.Shelf
def Tryz.q1z:Go.Shelf.Ren:=⟨fun|189=>120|125=>141|257=>147|128=>163|129=>164|294=>167|295=>168|296=>169|297=>170|298=>171|299=>172|216=>173|300=>174|301=>175|328=>190|329=>186|330=>187|331=>191|332=>192|215=>111|343=>197|n=>n,fun|28=>27|3=>3|46=>90|0=>0|51=>77|53=>216|4=>4|183=>220|182=>219|131=>199|5=>5|9=>9|218=>241|222=>245|228=>251|229=>252|n=>n,fun|n=>n⟩
theorem Tryz.lays189:Go.Proofs.Lays.n189 Tryz.prog Tryz.q1z:={
 mixed:=by kernel_rfl
 f125:=Tryz.func141.trans (congrArg some (by kernel_rfl))
 f128:=Tryz.func163.trans (congrArg some (by kernel_rfl))
 f129:=Tryz.func164.trans (congrArg some (by kernel_rfl))
 f189:=Tryz.func120.trans (congrArg some (by kernel_rfl))
 f215:=Tryz.func111.trans (congrArg some (by kernel_rfl))
 f216:=Tryz.func173.trans (congrArg some (by kernel_rfl))
 f257:=Tryz.func147.trans (congrArg some (by kernel_rfl))
 f294:=Tryz.func167.trans (congrArg some (by kernel_rfl))
 f295:=Tryz.func168.trans (congrArg some (by kernel_rfl))
 f296:=Tryz.func169.trans (congrArg some (by kernel_rfl))
 f297:=Tryz.func170.trans (congrArg some (by kernel_rfl))
 f298:=Tryz.func171.trans (congrArg some (by kernel_rfl))
 f299:=Tryz.func172.trans (congrArg some (by kernel_rfl))
 f300:=Tryz.func174.trans (congrArg some (by kernel_rfl))
 f301:=Tryz.func175.trans (congrArg some (by kernel_rfl))
 f328:=Tryz.func190.trans (congrArg some (by kernel_rfl))
 f329:=Tryz.func186.trans (congrArg some (by kernel_rfl))
 f330:=Tryz.func187.trans (congrArg some (by kernel_rfl))
 f331:=Tryz.func191.trans (congrArg some (by kernel_rfl))
 f332:=Tryz.func192.trans (congrArg some (by kernel_rfl))
 f343:=Tryz.func197.trans (congrArg some (by kernel_rfl))
 t0:=Tryz.underlying0
 a0:=Tryz.isAgg0
 z0:=Tryz.sizeOf0
 v0:=Tryz.zeroValue0
 t3:=Tryz.underlying3
 a3:=Tryz.isAgg3
 z3:=Tryz.sizeOf3
 v3:=Tryz.zeroValue3
 t4:=Tryz.underlying4
 a4:=Tryz.isAgg4
 z4:=Tryz.sizeOf4
 v4:=Tryz.zeroValue4
 t5:=Tryz.underlying5
 a5:=Tryz.isAgg5
 z5:=Tryz.sizeOf5
 v5:=Tryz.zeroValue5
 t9:=Tryz.underlying9
 a9:=Tryz.isAgg9
 z9:=Tryz.sizeOf9
 v9:=Tryz.zeroValue9
 t28:=Tryz.underlying27
 a28:=Tryz.isAgg27
 z28:=Tryz.sizeOf27
 v28:=Tryz.zeroValue27
 t46:=Tryz.underlying90
 a46:=Tryz.isAgg90
 z46:=Tryz.sizeOf90
 v46:=Tryz.zeroValue90
 t51:=Tryz.underlying77
 a51:=Tryz.isAgg77
 z51:=Tryz.sizeOf77
 v51:=Tryz.zeroValue77
 t53:=Tryz.underlying216
 a53:=Tryz.isAgg216
 z53:=Tryz.sizeOf216
 v53:=Tryz.zeroValue216
 t131:=Tryz.underlying199
 a131:=Tryz.isAgg199
 z131:=Tryz.sizeOf199
 v131:=Tryz.zeroValue199
 t182:=Tryz.underlying219
 a182:=Tryz.isAgg219
 z182:=Tryz.sizeOf219
 v182:=Tryz.zeroValue219
 t183:=Tryz.underlying220
 a183:=Tryz.isAgg220
 z183:=Tryz.sizeOf220
 v183:=Tryz.zeroValue220
 t218:=Tryz.underlying241
 a218:=Tryz.isAgg241
 z218:=Tryz.sizeOf241
 v218:=Tryz.zeroValue241
 t222:=Tryz.underlying245
 a222:=Tryz.isAgg245
 z222:=Tryz.sizeOf245
 v222:=Tryz.zeroValue245
 t228:=Tryz.underlying251
 a228:=Tryz.isAgg251
 z228:=Tryz.sizeOf251
 v228:=Tryz.zeroValue251
 t229:=Tryz.underlying252
 a229:=Tryz.isAgg252
 z229:=Tryz.sizeOf252
 v229:=Tryz.zeroValue252}
end Go.Proofs
namespace Go.V
open Go
theorem O3 {P:Program}{U:Heap}:Ret P U (.val .bo true) [] (.bool true) U :=
 ⟨⟨.refl _,Dead.refl _⟩,λ_=>rfl,Jg,λj b hj=>by simp at hj,λj j' i hj=>by simp at hj,by simp[SR,KC]⟩
theorem Q02 {P:Program}{f:Nat}(h:∀ (U:Heap) (K:Value->Heap->Prop),K (.bool true) U->VCalled P f [] U K):OkC P f (V7 (.nil:AL Unit) (λ_=>True) (λ_=>.val .bo true) (λ_=>[])):=by
 intro ap dR U args vs c v bs ax hs hv cj hc;unfold V7 at hs;split at hs
 .rename_i d hd;obtain⟨rfl,rfl,rfl⟩:=(by simpa using hs:True=c/\SV.val .bo true=v/\[]=bs);have:vs=[]:=by
   cases args with
   |nil=>simpa [SRs] using ax
   |cons a l=>simp[AL.dec] at hd
  subst this;refine⟨h U _ O3,λ_ _=>h U _ ⟨rfl,?_⟩⟩;unfold BW;cases U;simp only[List.length_nil,zL,List.getElem?_nil,Option.bind_none,Heap.mk.injEq,and_true];funext i;split
  .rfl
  .rename_i wf hi;exact wf i (by simpa using hi)
 .cases hs
end Go.V
namespace Go.V
open Go Go.RowKit
theorem AQ {ρ:Plc}{n:Nat}{args:List Value}{aw:Array Value}(ha:args.all QK=true) (hL:LRel ρ n args aw.toList):aw=args.toArray:=by
 apply Array.ext';apply zV;intro i;cases hi:aw.toList[i]? with
 |none =>have:=List.getElem?_eq_none_iff.1 hi;rw[<-hL.1] at this;rw[zm (by simpa using this)]
 |some c =>have ah:=(zh.1 hi).1;rw[<-hL.1] at ah;have h1:=hL.2 i args[i] c (z6 ah) hi;rw[YQ (zg.1 ha _ (zr ah)) h1];simp[z6 ah]
theorem NG {α:Type}[Inhabited α] (enc:α->Value) (blk:Nat):∀ (ys:List α) (w:World) (off:Nat),Go.Sort.putRow enc w blk off ys.toArray=w.setCells blk off (ys.map enc)
 |[],w,off=>by
  simp only[List.map_nil,World.setCells];refine Go.Sort.mapBlock_id _ _ _ λc _ _ _=>?_;apply Array.ext_getElem?;intro k;simp only[Go.Sort.putCells,Array.getElem?_mapIdx];cases h:c[k]? with
  |none=>rfl
  |some x=>rw[z_,zd (by simp)]
 |y::ys,w,off=>by
  rw[zE,World.setCells,<-NG enc blk ys,Go.Sort.setCell_eq];unfold Go.Sort.putRow;rw[Go.Sort.mapBlock_mapBlock];refine Go.Sort.mapBlock_congr _ _ _ _ λc _ _ _=>?_;apply Array.ext_getElem?;intro k;simp only[Go.Sort.putCells,Array.getElem?_mapIdx,Array.getElem?_setIfInBounds,List.size_toArray,xi];by_cases hk:off=k
  .subst hk;rw[z8 rfl];by_cases hc:off<c.size
   .rw[z8 hc,xg hc,z_,z_,z8 (by omega),zd (by omega),xP];simp
   .rw[zd hc,Array.getElem?_eq_none (by omega)];rfl
  .rw[zd hk];cases h:c[k]? with
   |none=>rfl
   |some x =>
    simp only[z_,x6];by_cases h1:off+1<=k/\k<off+1+ys.length
    .rw[z8 h1,z8 (by omega)];have e:k-off=(k-(off+1))+1:=by omega
     rw[e];simp
    .rw[zd h1,zd (by omega)]
theorem Ll {h:Heap}:∀ (xs:List Int),Rows (KC h (.i .i64)) xs (xs.map (Value.int .i64))
 |[]=>.nil
 |x::xs=>.cons (c:=[.int .i64 x]) rfl (Ll xs)
theorem Bl {h:Heap}:∀ {xs:List Int}{cs:List Value},Rows (KC h (.i .i64)) xs cs->cs=xs.map (Value.int .i64)
 |[],_,.nil=>rfl
 |x::xs,_,.cons hc ht=>by have hc:_=[Value.int .i64 x]:=hc;rw[hc,Bl ht];rfl
theorem SC {ρ:Plc}{n:Nat}:∀ (xs:List Int),LRel ρ n (xs.map (Value.int .i64)) (xs.map (Value.int .i64))
 |[]=>LRel.nil _ _
 |x::xs=>LRel.cons (.int _ _) (SC xs)
theorem Og {h:Heap}(ys:List Int) {c:List Value}(hl:ys.length<=c.length):Rows (KC h (.i .i64)) ys ((Yi c 0 (ys.map (Value.int .i64))).take (ys.length*(Kind.i .i64).size)):=by
 have cu:(ys.map (Value.int .i64)).length=ys.length:=by rw[List.length_map]
 rw[Vx (by omega),cu];simp only[Kind.size,wP,wB,xl];rw[List.take_append_of_le_length (by omega),zy (by omega)];exact Ll _
theorem VCalled.of_same {P:Program}{f:FuncId}{args:List Value}{U:Heap}{K:Value->Heap->Prop}(he:J8 P f) (ha:args.all QK=true)
  (h:∀ w,Calls P f args.toArray w λe w'=>e=.returned (.tuple #[])/\w'=w) (hK:K (.tuple #[]) U):VCalled P f args U K:=by
 intro ρ w aw hH hL;obtain rfl:=AQ ha hL;refine .inl ⟨λw=>Yl he _ w,(h w).mono λe w' ⟨h1,h2⟩=>?_⟩;subst h2;exact⟨_,h1,.tuple #[],ρ,U,hK,.tuple _ _ rfl (λi h1 _=>by simp at h1),hH,Ext.refl _ _ _⟩
theorem VCalled.q2n {P:Program}{f:FuncId}{i cap ty:Nat}{xs:List Int}{c:List Value}{t:Bool}{U:Heap}{K:Value->Heap->Prop}(g:List Int->List Int) (hg:(g xs).length=xs.length) (he:J8 P f)
  (h:∀ (blk off cap:Nat) (w:World),Go.Sort.Holds (Value.int .i64) w blk off xs.toArray->blk<w.heap.size->Calls P f #[.slice (some ⟨blk,off,none⟩) xs.length cap] w λe w'=>e=.returned (.tuple #[])/\∃ n os,w'=Go.Sort.grow (Go.Sort.putRow (Value.int .i64) (Go.Sort.ahead w n) blk off (g xs).toArray) os)
  (hb:U.get i=some (.cells c ⟨1,ty⟩ true t)) (h0:0<xs.length) (cQ:xs.length<=cap) (hl:cap<=c.length) (hr:c.take xs.length=xs.map (Value.int .i64))
  (hK:K (.tuple #[]) (U.upd i (.cells (Yi c 0 ((g xs).map (Value.int .i64))) ⟨1,ty⟩ true t))):VCalled P f [.slice (some ⟨i,0,none⟩) xs.length cap] U K:=by
 intro ρ w aw hH hL;obtain⟨p,hp,hB⟩:=hH.live i _ hb;have dK:=hB;obtain⟨h1,h2,h3,⟨C,e,fr,h4,h_⟩,h5,h6⟩:=hB;have aA:aw.size=1:=by have:=hL.1;simpa using this.symm
 obtain⟨u,rfl⟩:∃ u,aw=#[u]:=⟨aw[0],by
  apply Array.ext (by simpa using aA);intro j ky dD;obtain rfl:j=0:=by simp at dD;omega
  rfl⟩
 have hu:=hL.2 0 _ u rfl rfl;cases hu with
 |sl _ _ _ _ a au hi aQ =>
  obtain⟨q1,q2,⟨_,q5⟩|⟨o',rfl,q3,q4⟩⟩:=aQ p hp
  .omega
  have hz:p.esz.sz=1:=by rw[h1]
  have bE:xs.length=0\/o'=0:=by omega
  have mP:Go.Sort.Holds (Value.int .i64) w p.blk (p.shift+o') xs.toArray:=λj hj=>by
   simp only[List.size_toArray] at hj;obtain rfl:o'=0:=by omega
   have s6:c[j]?=some (.int .i64 xs[j]):=by
    have e1:(c.take xs.length)[j]?=(xs.map (Value.int .i64))[j]?:=by rw[hr]
    rw[zP,z8 hj,zU,z6 hj] at e1;exact e1
   obtain⟨u,vw,kW⟩:=h5 j _ s6;cases kW;refine⟨?_,(h6 rfl).2 j (by have:=(zh.1 s6).1;omega)⟩;rw[zL,vw];simp[hj]
  refine .inl ⟨λw=>Yl he _ w,(h p.blk (p.shift+o') au w mP (hH.lt i p hp)).mono λe w' ⟨iD,n,os,gV⟩=>?_⟩;subst gV;have hlen:((g xs).map (Value.int .i64)).length=xs.length:=by rw[List.length_map,hg]
  obtain⟨k1,k2⟩:=hH.store hp hb (o:=0) (SC (g xs)) (by omega);have hw:Go.Sort.putRow (Value.int .i64) w p.blk (p.shift+o') (g xs).toArray=w.setCells p.blk (p.shift+0) ((g xs).map (Value.int .i64)):=by
   rw[NG];rcases bE with h0|h0
   .have:g xs=[]:=x4.1 (by omega);rw[this];rfl
   .rw[h0]
  rw[Go.Sort.putRow_ahead,hw];have hold:∀ k,k<(w.setCells p.blk (p.shift+0) ((g xs).map (Value.int .i64))).heap.size->(Go.Sort.grow (Go.Sort.ahead (w.setCells p.blk (p.shift+0) ((g xs).map (Value.int .i64))) n) os).heap[k]?=(w.setCells p.blk (p.shift+0) ((g xs).map (Value.int .i64))).heap[k]?:=λk hk =>
   Go.Sort.heap_grow_old _ os (by simpa using hk)
  have aF:(w.setCells p.blk (p.shift+0) ((g xs).map (Value.int .i64))).heap.size<=(Go.Sort.grow (Go.Sort.ahead (w.setCells p.blk (p.shift+0) ((g xs).map (Value.int .i64))) n) os).heap.size:=by simp
  refine⟨_,iD,.tuple #[],ρ,_,hK,.tuple _ _ rfl (λi h1 _=>by simp at h1),k1.world aF (λi p hp=>hold _ (k1.lt i p hp)) (λg cs hg=>hold _ (k1.tab.lt hg)),k2.trans ⟨rfl,rfl,rfl,aF,λB hB _=>hold B hB,λ_ _ h=>h,zf _,λ_ _ _ h=>h⟩⟩
theorem Oc {P:Program}{ρ0:Go.Shelf.Ren}{f ty:Nat}{ap:Ap}(L:Go.Proofs.Lays.n189 P ρ0) (he:J8 P f) (hf:ρ0.f 189=f) {al:AL Unit}(qQ:al=.nil) {pre:List Int->Bool->Unit->Prop}(hp:∀ xs nl d,pre xs nl d->(nl=false->0<xs.length)/\xs.length<=1000000) :
  XOk P f (Q4z ap (AU ty (.i .i64) al pre (λ_ _ _=>.tup []) (λxs _ _=>xs.mergeSort λx y=>decide (x<=y)))):=by
 subst hf;subst qQ;intro B F pl tb s env U d args vs K R hG ha hx hK;unfold Q4z at hx;split at hx
 .rename_i a args;split at hx
  .rename_i o bI;cases iI:((Q8 s.own o).ret&&Z41 a (Q8 s.own o)) with
   |false=>rw[iI] at hx;exact hx.elim
   |true =>
   rw[iI] at hx;simp only[zl] at hx;simp only[z7] at iI;obtain⟨oL,fM⟩:=iI;split at hx
   .rename_i c v b' cy;cases bY:(v.ret 0&&b'.ret) with
    |false=>rw[bY] at hx;exact hx.elim
    |true =>
    rw[bY] at hx;obtain⟨hc,hx⟩:=hx;simp only[SRs] at ha;obtain⟨u,us,rfl,pU,du⟩:=ha;have aq:=OB.q2g oL;have ao:=hG.obj o;unfold AU at cy;split at cy
    .rename_i gj k' vz nl aJ;split at cy
     .rename_i e;subst e;split at cy
      .rename_i xs dd h1 h2;obtain⟨rfl,rfl,rfl⟩:=(by simpa using cy:pre xs nl dd=c/\SV.tup []=v/\OB.lst gj (.i .i64) (xs.mergeSort λx y=>decide (x<=y)) nl=b');unfold Vu at h1;split at h1
       .rename_i e;subst e;have h1:xs=vz:=(osj h1).symm;subst h1;have ax:args=[]:=by
         cases args with
         |nil=>rfl
         |cons b l=>simp[Bv,Z3m,BV,AL.dec] at h2
        subst ax;have du:us=[]:=du;subst du;rw[aJ] at fM;have hu:u=pl o:=by
         unfold Z3u at bI;split at bI
         .obtain rfl:=osj bI;exact pU.1
         .cases fM
         .cases bI
        subst hu;have hlen:=hp _ _ _ hc;rw[aJ] at ao;rcases ao with⟨rfl,rfl,h3⟩|⟨rfl,i,cap,c,t,h3,h4,h5,h6,h7⟩
        .rw[h3];refine VCalled.of_same he rfl (λw=>Go.Proofs.Any.slices_Sort_int_none L none 0 w) ?_
         .refine hK _ _ B F pl tb (.tuple #[]) U hx (GBase.of hG.bf (Dead.refl _)) (hG.writeF o (.lst gj (.i .i64) (([]:List Int).mergeSort λx y=>decide (x<=y)) true) hG.le aq (λ_ _ _ _ _=>rfl) (.inl ⟨rfl,by simp,h3⟩)).1 ?_;simp only[SR,SRs];exact⟨[],rfl,rfl⟩
        .rw[h3];have bh:F.get i=none:=hG.fresh o i aq (by rw[h3];rfl);have a_:∀ j i',j≠o->(Q8 s.own j).live=true->Oid (pl j) i'->i'≠i:=λj i' hj hl hi e=>by
          subst e;exact hG.sep j o i' hj hl aq hi (by rw[h3];rfl)
         have s7:cap<=c.length:=by simpa [Kind.size] using h6
         have vA:c.take xs.length=xs.map (Value.int .i64):=by have:=Bl h7;simpa [Kind.size] using this
         refine VCalled.q2n (λxs=>xs.mergeSort λx y=>decide (x<=y)) (List.length_mergeSort _) he (λblk off cap w hH hb=>Go.Proofs.Any.slices_Sort_int L blk off cap xs w hH hb (by omega)) h5 (hlen.1 rfl) h4 s7 vA ?_;refine hK _ _ B F pl tb (.tuple #[]) _ hx (GBase.of hG.bf (Dead.upd _ _ _ (by rw[h5];rfl))) (hG.writeF o (.lst gj (.i .i64) (xs.mergeSort λx y=>decide (x<=y)) false) (hG.le.upd bh _) aq (λj i' hj hl hi=>Heap.q0b _ _ (a_ j i' hj hl hi)) (.inr ⟨rfl,i,cap,_,t,by rw[h3,List.length_mergeSort],by rw[List.length_mergeSort];exact h4,Heap.q0c _ _ (U.lt h5),by rw[JY];exact h6,?_⟩)).1 ?_
         .exact Og _ (by rw[List.length_mergeSort];exact zX h4 s7)
         .simp only[SR,SRs];exact⟨[],rfl,rfl⟩
       .cases h1
      .cases cy
     .cases cy
    .cases cy
   .exact hx.elim
  .exact hx.elim
 .exact hx.elim
end Go.V
namespace Go.Proofs.Tryz
open Go Go.V Go.Proofs
abbrev Q8p (l:List Int):List Int:=l.mergeSort λx y=>decide (x<=y)
def Zj (hk:Int) (cs:List UC) (cl:List Int) (fa:Int):List Int :=
 ((List.range cs.length).map λ(a:Nat)=>(a:Int)).filter λa=>(List.range (fa.toNat+1)).any λf=>!(wyK cs.length fa.toNat (λk=>wvB hk cs cl k) cl.length (a,(f:Int))==0)
theorem YV {hk:Int}{cs:List UC}{cl:List Int}{fa:Int}(hn:0<cs.length) {a:Int}:a∈Zj hk cs cl fa<->∃ f,wyK cs.length fa.toNat (λk=>wvB hk cs cl k) cl.length (a,f)≠0:=by
 unfold Zj;rw[zY,zI,xF];constructor
 .rintro⟨_,f,_,h⟩;exact⟨(f:Int),by simpa using h⟩
 .rintro⟨f,h⟩;have hg:=Zi.1 (H7 _ _ _ hn _ _ h);dsimp only at hg;refine⟨⟨a.toNat,zF.2 (by omega),by omega⟩,f.toNat,zF.2 (by omega),?_⟩;rw[show ((f.toNat:Nat):Int)=f by omega];simpa using h
theorem Ul (hk:Int) (cs:List UC) (cl:List Int) (fa:Int):(Zj hk cs cl fa).Pairwise (·<·):=by
 unfold Zj;refine List.Pairwise.filter _ (wK.2 (List.pairwise_lt_range.imp λh=>by omega))
theorem DF:∀ {l m:List Int},l.Pairwise (·<·)->m.Pairwise (·<·)->(∀ x,x∈l<->x∈m)->l=m
 |[],[],_,_,_=>rfl
 |[],y::m,_,_,h=>by have:=(h y).2 (zq ..);cases this
 |x::l,[],_,_,h=>by have:=(h x).1 (zq ..);cases this
 |x::l,y::m,hl,hm,h=>by
  rw[wJ] at hl hm;have e:x=y:=by
   rcases zo.1 ((h x).1 (zq ..)) with e|e
   .exact e
   .rcases zo.1 ((h y).2 (zq ..)) with e2|e2
    .exact e2.symm
    .have:=hm.1 x e;have:=hl.1 y e2;omega
  subst e;have:l=m:=DF hl.2 hm.2 λz=>by
   have hz:=h z;rw[zo,zo] at hz;constructor
   .intro fJ;rcases hz.1 (.inr fJ) with e|e
    .have:=hl.1 z fJ;omega
    .exact e
   .intro s8;rcases hz.2 (.inr s8) with e|e
    .have:=hm.1 z s8;omega
    .exact e
  rw[this]
theorem Lp (k:Int):∀ (m:List (Int×Bool)),(m.map (·.1)).Nodup->((PT (.i .i64) m k true).map (·.1)).Nodup/\∀ x,x∈(PT (.i .i64) m k true).map (·.1)<->x=k\/x∈m.map (·.1)
 |[],_=>⟨List.pairwise_singleton _ _,λx=>by show x∈[k]<->_;simp⟩
 |(a,b)::m,hn=>by
  rw[zE,xr] at hn;obtain⟨h1,h2⟩:=Lp k m hn.2;by_cases hk:k=a
  .subst hk;have e:PT (.i .i64) ((k,b)::m) k true=(k,true)::m:=by
    show (if gq.keq (.i .i64) k k=true then (k,true)::m else _)=_;rw[z8 (show gq.keq (.i .i64) k k=true from by show ((k:Int)==k)=true;simp)]
   rw[e,zE,zE];refine⟨xr.2 hn,λx=>?_⟩;simp only[zo];constructor
   .rintro (h|h)
    .exact .inl h
    .exact .inr (.inr h)
   .rintro (h|h|h)
    .exact .inl h
    .exact .inl h
    .exact .inr h
  .have e:PT (.i .i64) ((a,b)::m) k true=(a,b)::PT (.i .i64) m k true:=by
    show (if gq.keq (.i .i64) k a=true then _ else (a,b)::PT (.i .i64) m k true)=_;rw[zd (show ¬ gq.keq (.i .i64) k a=true from λh=>hk (by have h:((k:Int)==a)=true:=h;exact eq_of_beq h))]
   rw[e,zE,zE];refine⟨xr.2 ⟨λhm=>?_,h1⟩,λx=>?_⟩
   .rcases (h2 a).1 hm with h|h
    .exact hk h.symm
    .exact hn.1 h
   .rw[zo,h2 x,zo];constructor
    .rintro (h|h|h)
     .exact .inr (.inl h)
     .exact .inl h
     .exact .inr (.inr h)
    .rintro (h|h|h)
     .exact .inr (.inl h)
     .exact .inl h
     .exact .inr (.inr h)
theorem DZ {α:Type}[BEq α] [LawfulBEq α]:∀ {l m:List α},l.Nodup->(∀ x∈l,x∈m)->l.length<=m.length
 |[],_,_,_=>Nat.zero_le _
 |x::l,m,hn,hs=>by rw[xr] at hn;have hx:x∈m:=hs x (zq ..);have:=DZ (l:=l) (m:=m.erase x) hn.2 λy hy=>(List.mem_erase_of_ne (by rintro rfl;exact hn.1 hy)).2 (hs y (zi _ hy));rw[List.length_erase_of_mem hx] at this;have:=List.length_pos_of_mem hx;rw[xi];omega
theorem LoopP.rng2 {X:Type}{F:List Nat×X->(List Nat×X->Prop)->Prop}(n:Nat) (J:X->List Nat->Prop) {x0:X}(h0:J x0 [])
  (hr:∀ (x:X) (dn:List Nat),dn.Nodup->(∀ r∈dn,r<n)->J x dn->∀ q:List Nat×X->Prop,(∀ (r:Nat) (x':X),r<n->r∉dn->J x' (dn++[r])->q (dn++[r],x'))->F (dn,x) q):LoopP F ([],x0):=by
 refine⟨λd=>d.1.Nodup/\(∀ r∈d.1,r<n)/\J d.2 d.1,λd=>n-d.1.length,⟨List.nodup_nil,(λr hr=>by cases hr),h0⟩,λ⟨dn,x⟩ ⟨h1,h2,h3⟩=>?_⟩;have h1:dn.Nodup:=h1;have h2:∀ r∈dn,r<n:=h2;refine hr x dn h1 h2 h3 _ λr x' ah gv hJ=>?_;have hn:=DK h1 gv;have hb:∀ y∈dn++[r],y<n:=λy hy=>by
  rcases zQ.1 hy with h|h
  .exact h2 y h
  .rw[zp] at h;omega
 refine⟨⟨hn,hb,hJ⟩,?_⟩;have:=Mg hn (m:=List.range n) λy hy=>zF.2 (hb y hy);rw[wL,zJ,xp] at this;have e:(dn++[r]).length=dn.length+1:=by simp
 show n-(dn++[r]).length<n-dn.length;omega
def KeyW (n:Nat) (m:List ((Int×Int)×Int)) (x:List (Int×Bool)) (dn:List Nat):Prop:=(x.map (·.1)).Nodup/\∀ a,a∈x.map (·.1)<->∃ r∈dn,(m.getD r ((0,0),0)).1.1=a
theorem KeyW.snoc {n:Nat}{m:List ((Int×Int)×Int)}{x:List (Int×Bool)}{dn:List Nat}(h:KeyW n m x dn) (r:Nat):KeyW n m (PT (.i .i64) x (m.getD r ((0,0),0)).1.1 true) (dn++[r]):=by
 obtain⟨h1,h2⟩:=Lp (m.getD r ((0,0),0)).1.1 x h.1;refine⟨h1,λa=>?_⟩;rw[h2 a,h.2 a];constructor
 .rintro (rfl|⟨s,hs,rfl⟩)
  .exact⟨r,by simp,rfl⟩
  .exact⟨s,xY _ hs,rfl⟩
 .rintro⟨s,hs,rfl⟩;rcases zQ.1 hs with hs|hs
  .exact .inr ⟨s,hs,rfl⟩
  .rw[zp] at hs;subst hs;exact .inl rfl
theorem KeyW.len {n mo:Nat}{m:List ((Int×Int)×Int)}{W:Int×Int->Int}(hm:MapW n mo m W) {x:List (Int×Bool)}{dn:List Nat}(ah:∀ r∈dn,r<m.length) (h:KeyW n m x dn):x.length<=n:=by
 have:=DZ (l:=x.map (·.1)) (m:=(List.range n).map λ(a:Nat)=>(a:Int)) h.1 λa ha=>by
  obtain⟨r,hr,rfl⟩:=(h.2 a).1 ha;have dH:=ah r hr;rw[Qh dH];have hg:=Zi.1 (hm.2.1 _ (zr dH)).2.2;exact zI.2 ⟨(m[r].1.1).toNat,zF.2 (by omega),by omega⟩
 simpa using this
theorem KeyW.all {hk:Int}{cs:List UC}{cl:List Int}{fa:Int}(hn:0<cs.length) {m:List ((Int×Int)×Int)}(hm:MapW cs.length fa.toNat m (wyK cs.length fa.toNat (λk=>wvB hk cs cl k) cl.length)) {x:List (Int×Bool)}{dn:List Nat}(ah:∀ r∈dn,r<m.length) (h:KeyW cs.length m x dn) (ae:∀ r,r<m.length->r∈dn) (a:Int):a∈x.map (·.1)<->a∈Zj hk cs cl fa:=by
 rw[h.2 a,YV hn];constructor
 .rintro⟨r,hr,rfl⟩;have dH:=ah r hr;rw[Qh dH];have he:=hm.2.1 _ (zr dH);refine⟨m[r].1.2,?_⟩;have:(m[r].1.1,m[r].1.2)=m[r].1:=rfl;rw[this,<-he.1];omega
 .rintro⟨f,hf⟩;obtain⟨e,he,hq⟩:=hm.2.2 (a,f) hf;obtain⟨r,hr,rfl⟩:=List.getElem_of_mem he;exact⟨r,ae r hr,by rw[Qh hr,hq]⟩
theorem AY {l:List Int}(h:l.Nodup):(l.mergeSort λx y=>decide (x<=y)).Pairwise (·<·):=by
 have h1:=List.pairwise_mergeSort (le:=λx y:Int=>decide (x<=y)) (λa b c h1 h2=>by simp at *;omega) (λa b=>by simp;omega) l;have h2:=(List.mergeSort_perm l λx y:Int=>decide (x<=y)).nodup_iff.2 h;exact List.Pairwise.imp₂ (λa b (h1:decide (a<=b)=true) (h2:a≠b)=>by simp at h1;omega) h1 h2
theorem KeyW.sorted {hk:Int}{cs:List UC}{cl:List Int}{fa:Int}(hn:0<cs.length) {m:List ((Int×Int)×Int)}(hm:MapW cs.length fa.toNat m (wyK cs.length fa.toNat (λk=>wvB hk cs cl k) cl.length)) {x:List (Int×Bool)}{dn:List Nat}(ah:∀ r∈dn,r<m.length) (h:KeyW cs.length m x dn) (ae:∀ r,r<m.length->r∈dn)
  {d2:List Nat}(p7:d2.Nodup) (lL:∀ r∈d2,r<x.length) (rT:∀ r,r<x.length->r∈d2):(d2.map λr=>(x.getD r (0,false)).1).mergeSort (λx y=>decide (x<=y))=Zj hk cs cl fa:=by
 have hx:∀ r,r<x.length->(x.getD r (0,false)).1=(x.map (·.1)).getD r 0:=λr hr=>by
  rw[Qh hr,Qh (by simpa using hr),xT]
 have pg:(d2.map λr=>(x.getD r (0,false)).1).Nodup:=wK.2 (List.Pairwise.imp_of_mem (λ{a b} ha hb aB e=>by
  rw[hx a (lL a ha),hx b (lL b hb)] at e;have la:a<(x.map (·.1)).length:=by simpa using lL a ha
  have lb:b<(x.map (·.1)).length:=by simpa using lL b hb
  rw[Qh la,Qh lb] at e;exact aB ((List.getElem_inj h.1).1 e)) p7)
 refine DF (AY pg) (Ul ..) λz=>?_;rw[(List.mergeSort_perm _ _).mem_iff,<-KeyW.all hn hm ah h ae z,zI,zI];constructor
 .rintro⟨r,hr,rfl⟩;have:=lL r hr;exact⟨x[r],zr this,by rw[Qh this]⟩
 .rintro⟨e,he,rfl⟩;obtain⟨r,hr,rfl⟩:=List.getElem_of_mem he;exact⟨r,rT r hr,by rw[Qh hr]⟩
def N4:AL (Unit):=.nil
def Uu (xs:List Int) (nl:Bool) (d:Unit):Prop:=(nl=false->0<xs.length)/\xs.length<=1000000
def U4 (xs:List Int) (nl:Bool) (d:Unit):SV:=.tup []
def VM (xs:List Int) (nl:Bool) (d:Unit):List Int:=(Q8p xs)
def Y7:XSp:=Q4z Nj (AU 3 (.i .i64) N4 Uu U4 VM)
abbrev UQ:Prop:=XOk Tryz.prog 120 Y7
theorem Uy:UQ:=Oc Tryz.lays189 fun120.enterable rfl rfl λ_ _ _ h=>h
def MS:AL ((Int×List (Int×Int×Bool))×List Int×Int):=(.cons (.agg (.cons (.k (.i .i64)) (.one (.k (.list (.pair (.i .i64) (.pair (.i .i64) .bo))))))) (.cons (.k (.list (.i .i64))) (.one (.k (.i .i64)))))
def HC (d:(Int×List (Int×Int×Bool))×List Int×Int):Prop:=Z1 d.1.1 d.1.2=0/\d.2.1.length<=60/\(∀ r∈d.2.1,-1<=r/\r<2 ^ d.1.1.toNat)/\0<=d.2.2/\d.2.2<=6
def N_ (d:(Int×List (Int×Int×Bool))×List Int×Int):SV:=.tup [.lst 0,.val (.i .i64) (0:Int)]
def Ny (d:(Int×List (Int×Int×Bool))×List Int×Int):List OB:=[.lst 3 (.i .i64) (Zj d.1.1 d.1.2 d.2.1 d.2.2) ((Zj d.1.1 d.1.2 d.2.1 d.2.2).isEmpty)]
def YE:CSp:=V7 MS HC N_ Ny
abbrev Ld:=λ(fw:List (Int×Bool)) (fX:List Nat) iz (gk:List Value) (fx:Int) (iA:Bool) (kI:List ((Int×Int)×Int)) (jL:List Nat) (kJ:List Value) (jM:List Value) (fy:LpD) (fz:List Int) (fY:_->Prop)=>(( ∃ p8:( List Nat )×( List Int ) ,( ( True/\True/\True )/\( ( fw=fw/\( fX++[ iz ] )=p8.1 )/\( gk=gk/\( True/\True/\True/\True/\True/\True/\True/\True/\True/\fx=fx/\True/\True/\True/\True/\True/\True/\True/\True/\True/\True/\True/\True/\True/\iA=iA/\True/\True/\True/\True/\True/\True/\( ( ( ( [ ]:List SV )=[ ] ) )/\( True/\( ( [ ]:List SV )=[ ] ) ) )/\True/\True/\( ( [ ]:List SV )=[ ] ) ) )/\( kI=kI/\jL=jL )/\( True/\( ( [ ]:List SV )=[ ] ) )/\( kJ=kJ/\( ( ( ( ( [ ]:List SV )=[ ] ) )/\( True/\( ( [ ]:List SV )=[ ] ) ) )/\True/\True/\True/\( ( ( ( [ ]:List SV )=[ ] ) )/\( True/\( ( [ ]:List SV )=[ ] ) ) )/\True/\True/\True/\True/\( ( [ ]:List SV )=[ ] ) ) )/\( jM=jM/\( ( ( ( ( [ ]:List SV )=[ ] ) )/\( True/\( ( [ ]:List SV )=[ ] ) ) )/\True/\True/\( ( ( ( [ ]:List SV )=[ ] ) )/\( True/\( ( [ ]:List SV )=[ ] ) ) )/\True/\( ( [ ]:List SV )=[ ] ) ) )/\( fy=fy/\( True/\( ( ( ( [ ]:List SV )=[ ] ) )/\( True/\( ( [ ]:List SV )=[ ] ) ) )/\True/\True/\True/\True/\( ( ( ( [ ]:List SV )=[ ] ) )/\( True/\( ( [ ]:List SV )=[ ] ) ) )/\True/\True/\True/\True/\True/\True/\( ( [ ]:List SV )=[ ] ) ) )/\( True/\( ( [ ]:List SV )=[ ] ) )/\( ( fz++[ ( List.getD fw ( List.getLastD ( fX++[ iz ] ) 0 ) ( 0 ,false ) ).1 ] )=p8.2/\false=( List.isEmpty p8.2 ) )/\True ) )/\fY p8 ):Prop)
abbrev HN:=λ(hk:Int) (cs:List (Int×Int×Bool)) (cl:List Int) (fa:Int) fw (fX:List Nat) (iz:LpD) (gk:LpD) (fx:List Int) (iA:List (Int×Bool)) (kI:List Value) (jL:List Value) (kJ:List Value) (jM:List Value) (fy:List Value) (fz:List Value) (fY:Int) (kK:Bool) (kL:List ((Int×Int)×Int)) (mQ:List Nat) (kM:_->Prop) (ph:Nat)=>(fw∉fX->( true=true->( ( fX++[ fw ] )≠[ ] )/\iz=gk/\∀ pj:List Value ,( ( ( List.length fx )+( List.length [ ( List.getD iA ( List.getLastD ( fX++[ fw ] ) 0 ) ( 0 ,false ) ).1 ] ) )*8<=70368744177664 )/\pj=pj/\iz=gk/\( ( ! true )=true->iz=gk/\kI=jL/\kJ=jM/\( ( false=false->0<( fx++[ ( List.getD iA ( List.getLastD ( fX++[ fw ] ) 0 ) ( 0 ,false ) ).1 ] ).length )/\( fx++[ ( List.getD iA ( List.getLastD ( fX++[ fw ] ) 0 ) ( 0 ,false ) ).1 ] ).length<=1000000 )/\fy=fz/\( ( True/\fY=( 0:Int )/\( ( [ ]:List SV )=[ ] ) )/\( ( ( Q8p ( fx++[ ( List.getD iA ( List.getLastD ( fX++[ fw ] ) 0 ) ( 0 ,false ) ).1 ] ) )=( Zj hk cs cl fa )/\false=( Zj hk cs cl fa ).isEmpty )/\True ) ) )/\( ( ! true )=false->( Ld iA fX fw fy fY kK kL mQ kJ kI iz fx kM ) ) )/\( true=false->iz=gk/\kI=jL/\kJ=jM/\( ( ( List.isEmpty fx )=false->0<ph )/\ph<=1000000 )/\fy=fz/\( ( True/\fY=( 0:Int )/\( ( [ ]:List SV )=[ ] ) )/\( ( ( Q8p fx )=( Zj hk cs cl fa )/\( List.isEmpty fx )=( Zj hk cs cl fa ).isEmpty )/\True ) ) ):Prop)
abbrev HL:=λ(hk:Int) (cs:List (Int×Int×Bool)) (cl:List Int) (fa:Int) (fw:List Nat) (fX:LpD) (iz:LpD) (gk:List Int) (fx:List (Int×Bool)) (iA:List Value) (kI:List Value) (jL:List Value) (kJ:List Value) (jM:List Value) (fy:List Value) (fz:Int) (fY:Bool) (kK:List ((Int×Int)×Int)) (kL:List Nat) (mQ:_->Prop) (kM:Nat)=>(( false=true->( fw≠[ ] )/\fX=iz/\∀ pj:List Value ,( ( ( List.length gk )+( List.length [ ( List.getD fx ( List.getLastD fw 0 ) ( 0 ,false ) ).1 ] ) )*8<=70368744177664 )/\pj=pj/\fX=iz/\( ( ! true )=true->fX=iz/\iA=kI/\jL=kJ/\( ( false=false->0<( gk++[ ( List.getD fx ( List.getLastD fw 0 ) ( 0 ,false ) ).1 ] ).length )/\( gk++[ ( List.getD fx ( List.getLastD fw 0 ) ( 0 ,false ) ).1 ] ).length<=1000000 )/\jM=fy/\( ( True/\fz=( 0:Int )/\( ( [ ]:List SV )=[ ] ) )/\( ( ( Q8p ( gk++[ ( List.getD fx ( List.getLastD fw 0 ) ( 0 ,false ) ).1 ] ) )=( Zj hk cs cl fa )/\false=( Zj hk cs cl fa ).isEmpty )/\True ) ) )/\( ( ! true )=false->( ∃ p9:( List Nat )×( List Int ) ,( ( True/\True/\True )/\( ( fx=fx/\fw=p9.1 )/\( jM=jM/\( True/\True/\True/\True/\True/\True/\True/\True/\True/\fz=fz/\True/\True/\True/\True/\True/\True/\True/\True/\True/\True/\True/\True/\True/\fY=fY/\True/\True/\True/\True/\True/\True/\( ( ( ( [ ]:List SV )=[ ] ) )/\( True/\( ( [ ]:List SV )=[ ] ) ) )/\True/\True/\( ( [ ]:List SV )=[ ] ) ) )/\( kK=kK/\kL=kL )/\( True/\( ( [ ]:List SV )=[ ] ) )/\( jL=jL/\( ( ( ( ( [ ]:List SV )=[ ] ) )/\( True/\( ( [ ]:List SV )=[ ] ) ) )/\True/\True/\True/\( ( ( ( [ ]:List SV )=[ ] ) )/\( True/\( ( [ ]:List SV )=[ ] ) ) )/\True/\True/\True/\True/\( ( [ ]:List SV )=[ ] ) ) )/\( iA=iA/\( ( ( ( ( [ ]:List SV )=[ ] ) )/\( True/\( ( [ ]:List SV )=[ ] ) ) )/\True/\True/\( ( ( ( [ ]:List SV )=[ ] ) )/\( True/\( ( [ ]:List SV )=[ ] ) ) )/\True/\( ( [ ]:List SV )=[ ] ) ) )/\( fX=fX/\( True/\( ( ( ( [ ]:List SV )=[ ] ) )/\( True/\( ( [ ]:List SV )=[ ] ) ) )/\True/\True/\True/\True/\( ( ( ( [ ]:List SV )=[ ] ) )/\( True/\( ( [ ]:List SV )=[ ] ) ) )/\True/\True/\True/\True/\True/\True/\( ( [ ]:List SV )=[ ] ) ) )/\( True/\( ( [ ]:List SV )=[ ] ) )/\( ( gk++[ ( List.getD fx ( List.getLastD fw 0 ) ( 0 ,false ) ).1 ] )=p9.2/\false=( List.isEmpty p9.2 ) )/\True ) )/\mQ p9 ) ) )/\( false=false->fX=iz/\iA=kI/\jL=kJ/\( ( ( List.isEmpty gk )=false->0<kM )/\kM<=1000000 )/\jM=fy/\( ( True/\fz=( 0:Int )/\( ( [ ]:List SV )=[ ] ) )/\( ( ( Q8p gk )=( Zj hk cs cl fa )/\( List.isEmpty gk )=( Zj hk cs cl fa ).isEmpty )/\True ) ) ):Prop)
abbrev YJ :=(((([]:List SV)=[]))/\(True/\(([]:List SV)=[])))
abbrev RE :=(True/\YJ/\True/\True/\True/\True/\YJ/\True/\True/\True/\True/\True/\True/\(([]:List SV)=[]))
abbrev RN :=(YJ/\True/\True/\True/\YJ/\True/\True/\True/\True/\(([]:List SV)=[]))
abbrev H8 :=((0:Int)=(0:Int)/\True/\True/\True)
abbrev Dj :=(True/\(([]:List SV)=[]))
abbrev R8 :=(YJ/\True/\True/\YJ/\True/\(([]:List SV)=[]))
def Y5 (hk:Int) (cs:List (Int × Int × Bool)) (cl:List Int) (fa:Int):Prop :=
  (Z1 hk cs = 0 /\ cl.length <= 60 /\ (∀ r ∈ cl, -1 <= r /\ r < 2 ^ hk.toNat) /\ 0 <= fa /\ fa <= 6) /\ (∀ m1:List ((Int × Int) × Int), (MapW cs.length fa.toNat m1 (wyK cs.length fa.toNat (λk => wvB hk cs cl k) cl.length)) -> ∃ (e4:(List ((Int × Int) × Int))) (d40:(List (Int × Bool)) × (List Nat)), (H8 /\ ((([]:List (Int × Bool)) = d40.1) /\ (m1 = e4 /\ ([]:List Nat) = d40.2) /\ True)) /\
  LoopP (λ(d4:(List (Int × Bool)) × (List Nat)) (q4:((List (Int × Bool)) × (List Nat)) -> Prop) =>
    ((∀ r:Nat, r < (List.length e4) -> r ∈ d4.2) ->
      (false = true ->
        (d4.2 ≠ []) /\ (∃ d6:(List (Int × Bool)) × (List Nat), (H8 /\ (((PT (.i .i64) d4.1 (List.getD e4 (List.getLastD d4.2 0) ((0, 0), 0)).1.1 true) = d6.1) /\ (e4 = e4 /\ d4.2 = d6.2) /\ True)) /\ q4 d6)) /\
      (false = false ->
        ∀ w7:List Value, w7 = w7 /\ ∀ w8:List Value, ∀ w9:List Value, ∀ pn:List Value, ∀ po:LpD, ∃ (dq:(List (Int × Bool)) × Int × (List ((Int × Int) × Int)) × (List Nat) × Bool × (List Value) × (List Value) × (List Value) × LpD) (d150:(List Nat) × (List Int)), ((True /\ True /\ True) /\ ((d4.1 = dq.1 /\ ([]:List Nat) = d150.1) /\ ((pj4 dq).2.1 = w8 /\ (True /\ True /\ True /\ True /\ True /\ True /\ True /\ True /\ True /\ (0:Int) = dq.2.1 /\ True /\ True /\ True /\ True /\ True /\ True /\ True /\ True /\ True /\ True /\ True /\ True /\ True /\ false = (pj4 dq).1 /\ True /\ True /\ True /\ True /\ True /\ True /\ YJ /\ True /\ True /\ (([]:List SV) = []))) /\ (e4 = dq.2.2.1 /\ d4.2 = dq.2.2.2.1) /\ Dj /\ ((pj4 dq).2.2.1 = w9 /\ RN) /\ ((pj4 dq).2.2.2.1 = pn /\ R8) /\ ((pj8 dq) = po /\ RE) /\ Dj /\ (d150.2 = [] /\ (List.isEmpty d150.2) = true) /\ True)) /\
        LoopP (λ(d15:(List Nat) × (List Int)) (s9:((List Nat) × (List Int)) -> Prop) =>
          ((∀ r:Nat, r < (List.length dq.1) -> r ∈ d15.1) ->
             (HL hk cs cl fa d15.1 (pj8 dq) po d15.2 dq.1 (pj4 dq).2.2.2.1 pn (pj4 dq).2.2.1 w9 (pj4 dq).2.1 w8 dq.2.1 (pj4 dq).1 dq.2.2.1 dq.2.2.2.1 s9 d15.2.length)) /\
          (∀ s_:Nat, s_ < (List.length dq.1) ->  (HN hk cs cl fa s_ d15.1 (pj8 dq) po d15.2 dq.1 (pj4 dq).2.2.2.1 pn (pj4 dq).2.2.1 w9 (pj4 dq).2.1 w8 dq.2.1 (pj4 dq).1 dq.2.2.1 dq.2.2.2.1 s9 d15.2.length))) d150)) /\
    (∀ r5:Nat, r5 < (List.length e4) -> r5 ∉ d4.2 ->
      (true = true ->
        ((d4.2 ++ [r5]) ≠ []) /\ (∃ d21:(List (Int × Bool)) × (List Nat), (H8 /\ (((PT (.i .i64) d4.1 (List.getD e4 (List.getLastD (d4.2 ++ [r5]) 0) ((0, 0), 0)).1.1 true) = d21.1) /\ (e4 = e4 /\ (d4.2 ++ [r5]) = d21.2) /\ True)) /\ q4 d21)) /\
      (true = false ->
        ∀ ta:List Value, ta = ta /\ ∀ rU:List Value, ∀ rV:List Value, ∀ rW:List Value, ∀ rX:LpD, ∃ (dt:(List (Int × Bool)) × Int × (List ((Int × Int) × Int)) × (List Nat) × Bool × (List Value) × (List Value) × (List Value) × LpD) (d300:(List Nat) × (List Int)), ((True /\ True /\ True) /\ ((d4.1 = dt.1 /\ ([]:List Nat) = d300.1) /\ ((pj4 dt).2.1 = rU /\ (True /\ True /\ True /\ True /\ True /\ True /\ True /\ True /\ True /\ (0:Int) = dt.2.1 /\ True /\ True /\ True /\ True /\ True /\ True /\ True /\ True /\ True /\ True /\ True /\ True /\ True /\ true = (pj4 dt).1 /\ True /\ True /\ True /\ True /\ True /\ True /\ YJ /\ True /\ True /\ (([]:List SV) = []))) /\ (e4 = dt.2.2.1 /\ (d4.2 ++ [r5]) = dt.2.2.2.1) /\ Dj /\ ((pj4 dt).2.2.1 = rV /\ RN) /\ ((pj4 dt).2.2.2.1 = rW /\ R8) /\ ((pj8 dt) = rX /\ RE) /\ Dj /\ (d300.2 = [] /\ (List.isEmpty d300.2) = true) /\ True)) /\
        LoopP (λ(d30:(List Nat) × (List Int)) (tc:((List Nat) × (List Int)) -> Prop) =>
          ((∀ r:Nat, r < (List.length dt.1) -> r ∈ d30.1) ->
             (HL hk cs cl fa d30.1 (pj8 dt) rX d30.2 dt.1 (pj4 dt).2.2.2.1 rW (pj4 dt).2.2.1 rV (pj4 dt).2.1 rU dt.2.1 (pj4 dt).1 dt.2.2.1 dt.2.2.2.1 tc d30.2.length)) /\
          (∀ td:Nat, td < (List.length dt.1) ->  (HN hk cs cl fa td d30.1 (pj8 dt) rX d30.2 dt.1 (pj4 dt).2.2.2.1 rW (pj4 dt).2.2.1 rV (pj4 dt).2.1 rU dt.2.1 (pj4 dt).1 dt.2.2.1 dt.2.2.2.1 tc d30.2.length))) d300))) d40)
def QN:Cx:=⟨[],[],4,[],0,[],[],[],[],false,[],[],[],[]⟩
def QM:List (Nat×LoopAnn):=[]
def Q5:Cx:=⟨[],[],14,[],0,[],[],[],[],false,[],[],[],[]⟩
def Q4:List (Nat×LoopAnn):=[(0,⟨(List (Int×Bool))×Int×(List ((Int×Int)×Int))×(List Nat)×Bool×(List Value)×(List Value)×(List Value)×LpD,(List Nat)×(List Int),[0,5],λe x=>[.dd 32000060002500000 .yv,.box 3200006000250000100005 0],λe x=>[(3200006000250000100005,.slot 5,.iter (.i .i64) .bo e.1 x.1),(3199999,.key 3199999,.stk [.any,.any,.any,.any,.any,.any,.any,.any,.any,.val (.i .i64) e.2.1,.any,.any,.any,.any,.any,.any,.any,.any,.any,.any,.any,.box 21 0,.any,.val .bo e.2.2.2.2.1,.any,.any,.any,.any,.any,.any,.fn 121 [] [.box 3100001 0],.any,.any] e.2.2.2.2.2.1),(21,.key 21,.iter (.pair (.i .i64) (.i .i64)) (.i .i64) e.2.2.1 e.2.2.2.1),(3100001,.key 3100001,.cells [.any] (some 122)),(320000599999,.key 320000599999,.stk [.fn 121 [] [.box 3100001 0],.any,.nilS,.any,.fn 121 [] [.box 3100001 0],.any,.any,.any,.any] e.2.2.2.2.2.2.1),(32000060000499999,.key 32000060000499999,.stk [.fn 121 [] [.box 3100001 0],.any,.nilS,.fn 121 [] [.box 3100001 0],.any] e.2.2.2.2.2.2.2.1),(32000060002500000,.key 32000060002500000,.lpf [.nilS,.fn 121 [] [.box 3100001 0],.box 32000060000500002 0,.any,.nilS,.any,.fn 121 [] [.box 3100001 0],.any,.any,.any,.any,.any,.any] e.2.2.2.2.2.2.2.2 .rdy),(32000060000500002,.key 32000060000500002,.cells [.lst 32000060000500011] (some 27)),(32000060000500011,.cell 32000060000500002 0,.lst 3 (.i .i64) x.2 (List.isEmpty x.2))]⟩)]
def Qd:Cx:=⟨[(3,(.i .i64))],[],13,[],0,[],[],[],[],false,[],[(121,Z43 Q5 Q4 Z0h 14)],[],[]⟩
def Qe:List (Nat×LoopAnn):=[]
def Qx:Cx:=⟨[],[],5,[],0,[(146,Q0j Qd (λ_=>Qe) Z07 [.tmp 4] 13)],[],[],[],false,[],[],[],[]⟩
def Qv:List (Nat×LoopAnn):=[]
def J0:Cx:=⟨[],[],9,[],0,[(119,Q0j Qx (λ_=>Qv) Z06 [.tmp 2] 5),(120,Y7)],[],[],[],false,[],[],[],[]⟩
def ZZ:List (Nat×LoopAnn):=[]
def MX:Cx:=⟨[(1000019,(.pair (.i .i64) .bo))],[],33,[],0,[(79,YF),(81,Q0j QN (λ_=>QM) c81 [.tmp 2] 4),(80,Q0j J0 (λ_=>ZZ) c80 [.tmp 2] 9)],[],[],[],false,[],[],[],[]⟩
def T7 (hk:Int) (cs:List (Int×Int×Bool)) (cl:List Int) (fa:Int):List (Nat×LoopAnn):=[(0,⟨(List ((Int×Int)×Int)),(List (Int×Bool))×(List Nat),[9,10,21],λe x=>[.val (.i .i64) (0:Int),.map 19,.box 21 0],λe x=>[(19,.slot 10,.map (.i .i64) .bo x.1),(21,.slot 21,.iter (.pair (.i .i64) (.i .i64)) (.i .i64) e x.2)]⟩)]
theorem T2 (d:(Int×List (Int×Int×Bool))×List Int×Int):gwp (MX) (T7 d.1.1 d.1.2 d.2.1 d.2.2) c28 0 (Vv [.tmp 6,.tmp 7] (N_ d) (Ny d)) (Qw 33 (AL.can MS d))=Y5 d.1.1 d.1.2 d.2.1 d.2.2:=by kernel_rfl
abbrev T1:Prop:=OkC Tryz.prog 28 YE
theorem Tb (h:∀ (hk:Int) (cs:List (Int×Int×Bool)) (cl:List Int) (fa:Int),(Z1 hk cs=0/\cl.length<=60/\(∀ r∈cl,-1<=r/\r<2 ^ hk.toNat)/\0<=fa/\fa<=6)->Y5 hk cs cl fa):OkC Tryz.prog 28 YE :=
 Z4 Q5q mixed (C:=MX) (V:=λ(d:(Int×List (Int×Int×Bool))×List Int×Int)=>Y5 d.1.1 d.1.2 d.2.1 d.2.2) ⟨.nil,(XsOk.cons M6 (XsOk.cons (NV Q3w mixed (C:=QN) ⟨.nil,XsOk.nil,ItsOk.nil,YlOk.nil,IysOk.nil,XfOk.nil⟩ (λ_=>QM)) (XsOk.cons (NV Q3u mixed (C:=J0) ⟨.nil,(XsOk.cons (NV IU mixed (C:=Qx) ⟨.nil,(XsOk.cons (NV Ir mixed (C:=Qd) ⟨.nil,XsOk.nil,ItsOk.nil,YlOk.nil,(IysOk.cons (Q4e FH mixed (C:=Q5) ⟨.nil,XsOk.nil,ItsOk.nil,YlOk.nil,IysOk.nil,XfOk.nil⟩ Q4) IysOk.nil),XfOk.nil⟩ (λ_=>Qe)) XsOk.nil),ItsOk.nil,YlOk.nil,IysOk.nil,XfOk.nil⟩ (λ_=>Qv)) (XsOk.cons Uy XsOk.nil)),ItsOk.nil,YlOk.nil,IysOk.nil,XfOk.nil⟩ (λ_=>ZZ)) XsOk.nil))),ItsOk.nil,YlOk.nil,IysOk.nil,XfOk.nil⟩ (T2) λd hp=>h d.1.1 d.1.2 d.2.1 d.2.2 hp
def fK (st:List Int):Nat->Int
 |0=>0
 |k+1=>fK st k+ftC (st.getD k 0)
def CrO (n:Nat) (W:Nat->Int->Bool) (a:Int) (st:List Int):Prop:=(0<=a/\a<(n:Int))/\∀ i,i<st.length->(0<=st.getD i 0/\st.getD i 0<=2)/\W i (atK n a st i)=true
theorem CrO.at_ {n:Nat}{W:Nat->Int->Bool}{a:Int}{st:List Int}(h:CrO n W a st) (k:Nat) (hk:k<=st.length):0<=atK n a st k/\atK n a st k<n :=
 F3 (by have:=h.1;omega) h.1.1 h.1.2 k λj hj=>(h.2 j (by omega)).1.1
theorem Fw (st:List Int) (j:Nat):∀ k,fK st j<=fK st (j+k)
 |0=>Int.le_refl _
 |k+1=>by have h1:=Fw st j k;have h2:=(S6 (st.getD (j+k) 0)).1;show fK st j<=fK st (j+k)+ftC (st.getD (j+k) 0);omega
theorem Q6j {st:List Int}{j k:Nat}(h:j<=k):fK st j<=fK st k:=by
 have:=Fw st j (k-j)
 rwa [show j+(k-j)=k by omega] at this
theorem EW (st:List Int) (k:Nat):0<=fK st k:=Q6j (j:=0) (Nat.zero_le _)
theorem SY {α:Type}{f:α->Int}:∀ {l:List α}{x:α},x∈l->(∀ y∈l,0<=f y)->f x<=(l.map f).sum
 |y::l,x,hx,h=>by
  rw[zE,xx];have h0:=h y (zq ..);have h1:=XU (l:=l) λz hz=>h z (zi _ hz);rcases zo.1 hx with rfl|hx
  .omega
  .have:=SY hx λz hz=>h z (zi _ hz);omega
theorem CrO.ways {n mo:Nat}{W:Nat->Int->Bool}{a:Int}{st:List Int}(h:CrO n W a st) (hf:fK st st.length<=mo):∀ k,k<=st.length->1<=wyK n mo W k (atK n a st k,fK st k)
 |0,_=>by
  have:=h.1;show 1<=if 0<=a/\a<(n:Int)/\(0:Int)=0 then (1:Int) else 0
  rw[z8 ⟨this.1,this.2,rfl⟩];exact Int.le_refl _
 |k+1,hk=>by
  have ih:=h.ways hf k (by omega);have cP:=h.at_ k (by omega);obtain⟨hs,hw⟩:=h.2 k (by omega);have iu:=QW n mo W k;have tf:=Q6j (st:=st) hk;have pQ:=EW st k;have jP:fK st (k+1)=fK st k+ftC (st.getD k 0):=rfl;have sV:=S6 (st.getD k 0);have hg:(atK n a st k,fK st k)∈Z3 n mo:=Zi.2 ⟨cP,pQ,by dsimp only;omega⟩;refine Int.le_trans ?_ (SY (f:=λp=>BE n mo (W k) p (wyK n mo W k p) (atK n a st (k+1),fK st (k+1))) hg λp _=>Kr (iu p));have bg:Nh n (atK n a st k,fK st k) (st.getD k 0)=(atK n a st (k+1),fK st (k+1)):=rfl;have one:N2 n mo (atK n a st k,fK st k) (wyK n mo W k (atK n a st k,fK st k)) (atK n a st (k+1),fK st (k+1)) (st.getD k 0)=wyK n mo W k (atK n a st k,fK st k):=by unfold N2;rw[z8 ⟨bg,by dsimp only;omega⟩]
  have b:=λs=>(Yq (n:=n) (mo:=mo) (p:=(atK n a st k,fK st k)) (q:=(atK n a st (k+1),fK st (k+1))) (s:=s) (iu (atK n a st k,fK st k))).1;have b0:=b 0;have b1:=b 1;have b2:=b 2;unfold BE;rw[z8 hw];rcases (show st.getD k 0=0\/st.getD k 0=1\/st.getD k 0=2 by omega) with e|e|e<;>rw[e] at one<;>omega
theorem CrO.count {hk:Int}{cs:List UC}{cl:List Int}{fa a:Int}{st:List Int}(h:CrO cs.length (λk=>wvB hk cs cl k) a st) (hm:st.length=cl.length) (hf:fK st st.length<=fa):1<=Jd hk cs cl fa:=by
 have h0:=EW st st.length;have h1:=h.ways (mo:=fa.toNat) (by omega) st.length (zf _);have cP:=h.at_ st.length (zf _);rw[hm] at h1 cP;refine Int.le_trans h1 (SY (f:=wyK cs.length fa.toNat (λk=>wvB hk cs cl k) cl.length) (Zi.2 ⟨cP,?_,?_⟩) λq _=>QW ..)
 .exact EW _ _
 .show fK st cl.length<=_;rw[<-hm];omega
theorem CrO.low {n:Nat}{W:Nat->Int->Bool}{a:Int}{st:List Int}(h:CrO n W a st):∀ j,j<=st.length->(QO n W st.length j).getD (atK n a st (st.length-j)).toNat 0<=fK st st.length-fK st (st.length-j)
 |0,_=>by
  have:(QO n W st.length 0).getD (atK n a st (st.length-0)).toNat 0=0:=by show (List.replicate n (0:Int)).getD _ 0=0;rw[ze,wG];split<;>rfl
  rw[this,Nat.sub_zero];omega
 |j+1,hj=>by
  have ih:=h.low j (by omega);obtain⟨k,hk⟩:∃ k,st.length-(j+1)=k:=⟨_,rfl⟩;have bw:st.length-j=k+1:=by omega
  rw[bw] at ih;rw[hk];have cP:=h.at_ k (by omega);obtain⟨hs,hw⟩:=h.2 k (by omega);rw[Q1n cP];have hg:=Q2u (n:=n) (now:=QO n W st.length j) (a:=(atK n a st k).toNat) (w:=W (st.length-1-j) (atK n a st k)) (by rw[show st.length-1-j=k by omega];exact hw);have rY:atK n a st (k+1)=nxC n (atK n a st k) (st.getD k 0):=rfl;have jP:fK st (k+1)=fK st k+ftC (st.getD k 0):=rfl;rw[rY] at ih;rw[show (((atK n a st k).toNat:Nat):Int)=atK n a st k by omega] at hg;rcases (show st.getD k 0=0\/st.getD k 0=1\/st.getD k 0=2 by omega) with e|e|e<;>rw[e] at ih jP<;>omega
theorem GL (n:Nat) (W:Nat->Int->Bool) (m:Nat):∀ j a,(YY n W m j a).length=j
 |0,_=>rfl
 |j+1,a=>by rw[YY,xi,GL n W m j]
theorem Pu {n:Nat}{W:Nat->Int->Bool}{m:Nat}{a:Int}(ha:0<=a/\a<(n:Int)) (hl:(QO n W m m).getD a.toNat 0<1048576):∀ i,i<=m ->
  (YY n W m m a).drop i=YY n W m (m-i) (atK n a (YY n W m m a) i)/\(0<=atK n a (YY n W m m a) i/\atK n a (YY n W m m a) i<n)/\fK (YY n W m m a) i+(QO n W m (m-i)).getD (atK n a (YY n W m m a) i).toNat 0=(QO n W m m).getD a.toNat 0
 |0,_=>⟨rfl,ha,by show 0+_=_;rw[Int.zero_add];rfl⟩
 |i+1,hi=>by
  obtain⟨h1,h2,h3⟩:=Pu ha hl i (by omega);obtain⟨j,hj⟩:∃ j,m-i=j+1:=⟨m-i-1,by omega⟩;have ky:m-(i+1)=j:=by omega
  rw[hj] at h1 h3;rw[ky];have pQ:=EW (YY n W m m a) i;obtain⟨hw,hs⟩:=LQ h2 (show (QO n W m (j+1)).getD (atK n a (YY n W m m a) i).toNat 0<1048576 by omega);have nu:=Lw n (QO n W m (j+1)) (QO n W m j) (atK n a (YY n W m m a) i);have cu:YY n W m (j+1) (atK n a (YY n W m m a) i)=SL n (QO n W m (j+1)) (QO n W m j) (atK n a (YY n W m m a) i)::YY n W m j (nxC n (atK n a (YY n W m m a) i) (SL n (QO n W m (j+1)) (QO n W m j) (atK n a (YY n W m m a) i))):=rfl;have hlen:=GL n W m m a;have hg:(YY n W m m a).getD i 0=SL n (QO n W m (j+1)) (QO n W m j) (atK n a (YY n W m m a) i):=by
   have:((YY n W m m a).drop i).getD 0 0=(YY n W m m a).getD i 0:=by rw[ze,ze,zz,zL]
   rw[<-this,h1,cu];rfl
  have cP:atK n a (YY n W m m a) (i+1)=nxC n (atK n a (YY n W m m a) i) ((YY n W m m a).getD i 0):=rfl;have tf:fK (YY n W m m a) (i+1)=fK (YY n W m m a) i+ftC ((YY n W m m a).getD i 0):=rfl;rw[cP,tf,hg];refine⟨?_,EI (by omega) h2.1 nu.1,by omega⟩;rw[<-List.drop_drop (i:=1),h1,cu];rfl
theorem FA {n:Nat}{W:Nat->Int->Bool}{m:Nat}{a:Int}(ha:0<=a/\a<(n:Int)) (hl:(QO n W m m).getD a.toNat 0<1048576) {i j:Nat}(hj:m-i=j+1) :
  (YY n W m m a).getD i 0=SL n (QO n W m (j+1)) (QO n W m j) (atK n a (YY n W m m a) i):=by
 have h1:=(Pu ha hl i (by omega)).1;rw[hj] at h1;have:((YY n W m m a).drop i).getD 0 0=(YY n W m m a).getD i 0:=by rw[ze,ze,zz,zL]
 rw[<-this,h1];rfl
theorem Q33 {n:Nat}{W:Nat->Int->Bool}{m:Nat}{a:Int}(ha:0<=a/\a<(n:Int)) (hl:(QO n W m m).getD a.toNat 0<1048576):CrO n W a (YY n W m m a)/\fK (YY n W m m a) m=(QO n W m m).getD a.toNat 0:=by
 refine⟨⟨ha,λi hi=>?_⟩,?_⟩
 .rw[GL] at hi;obtain⟨j,hj⟩:∃ j,m-i=j+1:=⟨m-i-1,by omega⟩;obtain⟨h1,h2,h3⟩:=Pu ha hl i (by omega);rw[hj] at h3;have pQ:=EW (YY n W m m a) i;have nu:=Lw n (QO n W m (j+1)) (QO n W m j) (atK n a (YY n W m m a) i);have hw:=(LQ h2 (show (QO n W m (j+1)).getD (atK n a (YY n W m m a) i).toNat 0<1048576 by omega)).1;rw[FA ha hl hj];exact⟨nu,by rw[show i=m-1-j by omega] at hw |-;exact hw⟩
 .have h3:=(Pu ha hl m (zf _)).2.2;have:(QO n W m (m-m)).getD (atK n a (YY n W m m a) m).toNat 0=0:=by
   rw[xP];show (List.replicate n (0:Int)).getD _ 0=0;rw[ze,wG];split<;>rfl
  omega
theorem LC {n a:Int}{s t:List Int}:∀ k,(∀ j,j<k->s.getD j 0=t.getD j 0)->atK n a s k=atK n a t k/\fK s k=fK t k
 |0,_=>⟨rfl,rfl⟩
 |k+1,h=>by obtain⟨h1,h2⟩:=LC k λj hj=>h j (by omega);have h3:=h k (by omega);exact⟨by show Int.tmod (atK n a s k+s.getD k 0) n=Int.tmod (atK n a t k+t.getD k 0) n;rw[h1,h3],by show fK s k+ftC (s.getD k 0)=fK t k+ftC (t.getD k 0);rw[h2,h3]⟩
theorem Q41 {n:Nat}{W:Nat->Int->Bool}{a:Int}{st:List Int}(h:CrO n W a st) (hl:(QO n W st.length st.length).getD a.toNat 0<1048576) (he:fK st st.length=(QO n W st.length st.length).getD a.toNat 0) {i:Nat}(hi:i<st.length)
  (hp:∀ j,j<i->(YY n W st.length st.length a).getD j 0=st.getD j 0):(YY n W st.length st.length a).getD i 0<=st.getD i 0:=by
 obtain⟨j,hj⟩:∃ j,st.length-i=j+1:=⟨st.length-i-1,by omega⟩;obtain⟨e1,e2⟩:=LC (n:=n) (a:=a) i hp;obtain⟨_,h2,h3⟩:=Pu h.1 hl i (by omega);rw[FA h.1 hl hj];rw[hj] at h3;rw[e1] at h2 h3 |-;rw[e2] at h3;obtain⟨hs,hw⟩:=h.2 i hi;refine Cq hs.1 ?_;have lo:=h.low j (by omega);rw[show st.length-j=i+1 by omega] at lo;have rY:atK n a st (i+1)=nxC n (atK n a st i) (st.getD i 0):=rfl;have jP:fK st (i+1)=fK st i+ftC (st.getD i 0):=rfl;rw[rY] at lo;have hg:=Q2u (n:=n) (now:=QO n W st.length j) (a:=(atK n a st i).toNat) (w:=W (st.length-1-j) (atK n a st i)) (by rw[show st.length-1-j=i by omega];exact hw);rw[<-Q1n (wv:=W) (m:=st.length) (k:=j) h2,show (((atK n a st i).toNat:Nat):Int)=atK n a st i by omega] at hg;rcases (show st.getD i 0=0\/st.getD i 0=1\/st.getD i 0=2 by omega) with e|e|e<;>rw[e] at lo jP |-<;>omega
theorem Q8x {hk:Int}{c:UC}(h:Zk hk c=true) (h0:0<=hk):0<=Ga hk c/\Ga hk c<2 ^ hk.toNat:=by
 obtain⟨h1,h2⟩:=DX h;unfold Ga;split
 .have:=Rj hk.toNat c.2.1.toNat;unfold EM;rw[Ha];omega
 .exact⟨h1,h2⟩
theorem Q7o {rw:List Int}(h:∀ x∈rw,0<=x/\x<=255) (fi:Int) (sp sn:List Int) (mo:Int) (i:Nat):-1<=trR rw fi sp sn mo i/\trR rw fi sp sn mo i<8:=by
 unfold trR;split
 .decide
 .have hc:Zk 3 ((Q9 rw).getD (trA rw fi sp mo i).toNat Dd)=true:=by
   by_cases hi:(trA rw fi sp mo i).toNat<(Q9 rw).length
   .exact RG h _ (by rw[Qh hi];exact zr hi)
   .rw[ze,zm (by omega)];decide
  have:=Q8x hc (by decide);have e:(2:Int) ^ Int.toNat 3=8:=rfl;omega
theorem Oj (rw:List Int) (fi:Int) (sp sn:List Int) (mo:Int):(Tm rw fi sp sn mo).length=trM sp:=by simp[Tm]
theorem Q01 {hk:Int}{cs:List UC}{cl:List Int}(hn:0<cs.length) (h:BK hk cs cl<1048576) :
  Js hk cs cl=0/\Nn hk cs cl=BK hk cs cl/\0<=BK hk cs cl/\(Dz hk cs cl).length=cl.length/\CrO cs.length (λk=>wvB hk cs cl k) (Mx hk cs cl) (Dz hk cs cl)/\fK (Dz hk cs cl) cl.length=BK hk cs cl:=by
 have hlen:=YM cs.length (λk=>wvB hk cs cl k) cl.length cl.length;have aB:QO cs.length (λk=>wvB hk cs cl k) cl.length cl.length≠[]:=λe=>by rw[e] at hlen;simp at hlen;omega
 obtain⟨m1,m2⟩:=DQ aB;obtain⟨i0,kO,hI,hg,-⟩:=RI m1;have hE:BK hk cs cl=Za (QO cs.length (λk=>wvB hk cs cl k) cl.length cl.length):=rfl;have hI:T4 hk cs cl=i0:=hI;rw[<-hE] at hg;have hb:=Ps cs.length (λk=>wvB hk cs cl k) cl.length cl.length i0;obtain⟨eA,eF,eR,eW⟩:=Rm (hk:=hk) (cs:=cs) (cl:=cl) (by omega);have iG:0<=T4 hk cs cl/\T4 hk cs cl<cs.length:=by omega
 have cO:(QO cs.length (λk=>wvB hk cs cl k) cl.length cl.length).getD (T4 hk cs cl).toNat 0=BK hk cs cl:=by rw[hI,zw];exact hg
 obtain⟨o1,o2⟩:=Q33 iG (show (QO cs.length (λk=>wvB hk cs cl k) cl.length cl.length).getD (T4 hk cs cl).toNat 0<1048576 by omega);rw[eA,eF,eR,eW];exact⟨rfl,rfl,by omega,GL ..,o1,by rw[o2,cO]⟩
theorem Q5w {hk:Int}{cs:List UC}{cl:List Int}{a:Int}{st:List Int}(h:CrO cs.length (λk=>wvB hk cs cl k) a st) (hm:st.length=cl.length) (hf:fK st st.length<1048576) :
  Js hk cs cl=0/\Nn hk cs cl=BK hk cs cl/\0<=BK hk cs cl/\BK hk cs cl<=fK st st.length/\(Dz hk cs cl).length=cl.length/\CrO cs.length (λk=>wvB hk cs cl k) (Mx hk cs cl) (Dz hk cs cl)/\fK (Dz hk cs cl) cl.length=BK hk cs cl /\
  (BK hk cs cl=fK st st.length->Mx hk cs cl<=a/\(Mx hk cs cl=a->∀ i,i<st.length->(∀ j,j<i->(Dz hk cs cl).getD j 0=st.getD j 0)->(Dz hk cs cl).getD i 0<=st.getD i 0)):=by
 have lo:=h.low st.length (zf _);rw[xP] at lo;have lo:(QO cs.length (λk=>wvB hk cs cl k) cl.length cl.length).getD a.toNat 0<=fK st st.length:=by rw[hm] at lo |-;have:fK st 0=0:=rfl;have e:atK cs.length a st 0=a:=rfl;rw[e] at lo;omega
 have hlen:=YM cs.length (λk=>wvB hk cs cl k) cl.length cl.length;have aB:QO cs.length (λk=>wvB hk cs cl k) cl.length cl.length≠[]:=λe=>by rw[e] at hlen;simp at hlen;have:=h.1;omega
 obtain⟨m1,m2⟩:=DQ aB;have cP:a.toNat<(QO cs.length (λk=>wvB hk cs cl k) cl.length cl.length).length:=by have:=h.1;omega
 have hle:=m2 _ (by rw[Qh cP];exact zr cP:(QO cs.length (λk=>wvB hk cs cl k) cl.length cl.length).getD a.toNat 0∈QO cs.length (λk=>wvB hk cs cl k) cl.length cl.length);obtain⟨i0,kO,hI,hg,j8⟩:=RI m1;have hE:BK hk cs cl=Za (QO cs.length (λk=>wvB hk cs cl k) cl.length cl.length):=rfl;have hI:T4 hk cs cl=i0:=hI;rw[<-hE] at hle hg j8;have hb:=Ps cs.length (λk=>wvB hk cs cl k) cl.length cl.length i0;obtain⟨eA,eF,eR,eW⟩:=Rm (hk:=hk) (cs:=cs) (cl:=cl) (by omega);have iG:0<=T4 hk cs cl/\T4 hk cs cl<cs.length:=by omega
 have cO:(QO cs.length (λk=>wvB hk cs cl k) cl.length cl.length).getD (T4 hk cs cl).toNat 0=BK hk cs cl:=by rw[hI,zw];exact hg
 obtain⟨o1,o2⟩:=Q33 iG (show (QO cs.length (λk=>wvB hk cs cl k) cl.length cl.length).getD (T4 hk cs cl).toNat 0<1048576 by omega);rw[eA,eF,eR,eW];refine⟨rfl,rfl,by omega,by omega,GL ..,o1,by rw[o2,cO],λhe=>⟨?_,λj6 i hi hp=>?_⟩⟩
 .have:¬ a.toNat<i0:=λc=>j8 _ c (by omega);have:=h.1;omega
 .rw[j6] at hp cO |-;rw[<-hm] at hp cO |-;exact Q41 h (by omega) (by omega) hi hp
theorem LX {α:Type}[BEq α] [LawfulBEq α] {f:α->Int}:∀ {l m:List α},l.Nodup->(∀ x∈l,x∈m)->(∀ x∈m,0<=f x)->(l.map f).sum<=(m.map f).sum
 |[],_,_,_,h=>XU h
 |x::l,m,hn,hs,h=>by rw[xr] at hn;have hx:x∈m:=hs x (zq ..);have:=LX (l:=l) (m:=m.erase x) hn.2 (λy hy=>(List.mem_erase_of_ne (by rintro rfl;exact hn.1 hy)).2 (hs y (zi _ hy))) λy hy=>h y (List.mem_of_mem_erase hy);rw[RU ((List.perm_cons_erase hx).map f),zE,zE,xx,xx];omega
theorem A7 {n mo ib:Nat}(h:mo<=ib):∀ x∈Z3 n mo,x∈Z3 n ib:=λx hx=>by rw[Zi] at hx |-;omega
theorem RS {n mo ib:Nat}{W W':Nat->Int->Bool}(h:mo<=ib):∀ k,(∀ j,j<k->∀ a,W j a=true->W' j a=true)->∀ q,wyK n mo W k q<=wyK n ib W' k q
 |0,_,q=>Int.le_refl _
 |k+1,hW,q=>by
  have ih:=RS (n:=n) (W:=W) (W':=W') h k λj hj=>hW j (by omega);refine Int.le_trans (Aa (g:=λp=>BE n ib (W' k) p (wyK n ib W' k p) q) λp _=>?_) (LX (K0 n mo) (A7 h) λp _=>Kr (QW n ib W' k p));have hp:=ih p;have iu:=QW n mo W k p;have one:∀ s:Int,N2 n mo p (wyK n mo W k p) q s<=N2 n ib p (wyK n ib W' k p) q s:=λs=>by
   unfold N2;by_cases c:Nh n p s=q/\q.2<=mo
   .rw[z8 c,z8 ⟨c.1,by omega⟩];exact hp
   .rw[zd c];split<;>omega
  have o0:=one 0;have o1:=one 1;have o2:=one 2;unfold BE;by_cases c:W k p.1=true
  .rw[z8 c,z8 (hW k (by omega) _ c)];omega
  .rw[zd c];have b:=λs=>(Yq (n:=n) (mo:=ib) (p:=p) (q:=q) (s:=s) (QW n ib W' k p)).1;have b0:=b 0;have b1:=b 1;have b2:=b 2;split<;>omega
theorem CrO.snoc {n:Nat}{W:Nat->Int->Bool}{a s:Int}{st:List Int}(h:CrO n W a st) (hs:0<=s/\s<=2) (hw:W st.length (atK n a st st.length)=true):CrO n W a (st++[s])/\atK n a (st++[s]) (st.length+1)=Int.tmod (atK n a st st.length+s) n/\fK (st++[s]) (st.length+1)=fK st st.length+ftC s:=by
 have hg:∀ j,j<st.length->(st++[s]).getD j 0=st.getD j 0:=λj hj=>by rw[ze,ze,xe hj]
 have hl:(st++[s]).getD st.length 0=s:=by rw[ze,xk (zf _),xP];rfl
 have hp:=λk (hk:k<=st.length)=>LC (n:=n) (a:=a) (s:=st++[s]) (t:=st) k λj hj=>hg j (by omega);refine⟨⟨h.1,λi hi=>?_⟩,?_,?_⟩
 .rw[zJ,xp] at hi;rcases zn i st.length with c|c
  .rw[hg i c,(hp i (by omega)).1];exact h.2 i c
  .obtain rfl:i=st.length:=by omega
   rw[hl,(hp _ (zf _)).1];exact⟨hs,hw⟩
 .show Int.tmod (atK n a (st++[s]) st.length+(st++[s]).getD st.length 0) n=_;rw[hl,(hp _ (zf _)).1]
 .show fK (st++[s]) st.length+ftC ((st++[s]).getD st.length 0)=_;rw[hl,(hp _ (zf _)).2]
theorem Rq {α:Type}{f:α->Int}{l:List α}(h:(l.map f).sum≠0):∃ x∈l,f x≠0:=by refine Decidable.by_contra λc=>h (GM λx hx=>Decidable.by_contra λe=>c ⟨x,hx,e⟩)
theorem Q2a {n mo:Nat}{W:Nat->Int->Bool}:∀ k q,wyK n mo W k q≠0->∃ a st,CrO n W a st/\st.length=k/\atK n a st k=q.1/\fK st k=q.2
 |0,q,h=>by
  have:0<=q.1/\q.1<(n:Int)/\q.2=0:=by
   simp only[wyK] at h;split at h
   .rename_i c;exact c
   .exact(h rfl).elim
  exact⟨q.1,[],⟨⟨this.1,this.2.1⟩,λi hi=>by simp at hi⟩,rfl,rfl,this.2.2.symm⟩
 |k+1,q,h=>by
  obtain⟨p,_,hp⟩:=Rq (show ((Z3 n mo).map λp=>BE n mo (W k) p (wyK n mo W k p) q).sum≠0 from h);have hw:W k p.1=true:=by
   unfold BE at hp;split at hp
   .rename_i c;exact c
   .exact(hp rfl).elim
  have hs:∃ s:Int,(0<=s/\s<=2)/\N2 n mo p (wyK n mo W k p) q s≠0:=by
   by_cases z0:N2 n mo p (wyK n mo W k p) q 0=0
   .by_cases z1:N2 n mo p (wyK n mo W k p) q 1=0
    .refine⟨2,by omega,λz2=>hp ?_⟩;unfold BE;rw[z8 hw,z0,z1,z2];rfl
    .exact⟨1,by omega,z1⟩
   .exact⟨0,by omega,z0⟩
  obtain⟨s,hs,ho⟩:=hs;have hc:Nh n p s=q/\wyK n mo W k p≠0:=by
   unfold N2 at ho;split at ho
   .rename_i c;exact⟨c.1,ho⟩
   .exact(ho rfl).elim
  obtain⟨a,st,g1,g2,g3,g4⟩:=Q2a k p hc.2;subst g2;obtain⟨s1,s2,s3⟩:=g1.snoc hs (by rw[g3];exact hw);refine⟨a,st++[s],s1,by simp,by rw[s2,g3,<-hc.1];rfl,by rw[s3,g4,<-hc.1];rfl⟩
theorem Q0o {hk:Int}{cs:List UC}{cl:List Int}{fa:Int}(hf:0<=fa/\fa<=6) (hn:0<cs.length):(decide (Jd hk cs cl fa > 0))=(Js hk cs cl==0&&decide (Nn hk cs cl<=fa)):=by
 rw[Bool.eq_iff_iff,z7,zk,zk,zT];constructor
 .intro h;obtain⟨q,hq,h2⟩:=Rq (show ((Z3 cs.length fa.toNat).map (wyK cs.length fa.toNat (λk=>wvB hk cs cl k) cl.length)).sum≠0 by unfold Jd at h;omega);obtain⟨a,st,g1,g2,-,g4⟩:=Q2a _ _ h2;have hg:=Zi.1 hq;have jO:fK st st.length=q.2:=by rw[g2];exact g4
  obtain⟨e1,e2,-,e4,-⟩:=Q5w g1 g2 (by omega);exact⟨e1,by omega⟩
 .rintro⟨h1,h2⟩;have hE:BK hk cs cl<1048576:=by
   unfold Js at h1;split at h1
   .cases h1
   .omega
  obtain⟨-,e2,e3,e4,e5,e6⟩:=Q01 hn hE;have:=e5.count (fa:=fa) e4 (by rw[e4];omega);omega
theorem Er {hk:Int}{cs:List UC}{cl:List Int}{fa:Int}(hn:0<cs.length):(decide (Jd hk cs cl fa > 0))=decide (((Zj hk cs cl fa).length:Int) > 0):=by
 rw[Bool.eq_iff_iff,zk,zk];constructor
 .intro h;obtain⟨q,hq,h2⟩:=Rq (show ((Z3 cs.length fa.toNat).map (wyK cs.length fa.toNat (λk=>wvB hk cs cl k) cl.length)).sum≠0 by unfold Jd at h;omega);have:q.1∈Zj hk cs cl fa:=(YV hn).2 ⟨q.2,h2⟩;have:=List.length_pos_of_mem this;omega
 .intro h;obtain⟨a,ha⟩:=List.exists_mem_of_length_pos (show 0<(Zj hk cs cl fa).length by omega);obtain⟨f,hf⟩:=(YV hn).1 ha;have hg:=H7 _ _ _ hn _ _ hf;have h1:=SY (f:=wyK cs.length fa.toNat (λk=>wvB hk cs cl k) cl.length) hg λq _=>QW ..;have h2:=QW cs.length fa.toNat (λk=>wvB hk cs cl k) cl.length (a,f);show 0<((Z3 cs.length fa.toNat).map (wyK cs.length fa.toNat (λk=>wvB hk cs cl k) cl.length)).sum;omega
theorem Sa {hk:Int}{cs:List UC}{cl cl':List Int}{fa fa':Int}(h:fa<=fa') (hl:cl.length=cl'.length) (hw:∀ k,k<cl.length->∀ a,wvB hk cs cl k a=true->wvB hk cs cl' k a=true):Jd hk cs cl fa<=Jd hk cs cl' fa':=by refine Int.le_trans (Aa (g:=wyK cs.length fa'.toNat (λk=>wvB hk cs cl' k) cl'.length) λq _=>?_) (LX (K0 ..) (A7 (by omega)) λq _=>QW ..);rw[<-hl];exact RS (by omega) _ hw q
theorem Ek {hk:Int}{cs:List UC}{cl:List Int}{fa fa':Int}(hn:0<cs.length) (h:fa<=fa'):(Zj hk cs cl fa).length<=(Zj hk cs cl fa').length:=by refine DZ ((Ul ..).imp λh=>by omega) λa ha=>?_;obtain⟨f,hf⟩:=(YV hn).1 ha;refine (YV hn).2 ⟨f,?_⟩;have h1:=QW cs.length fa.toNat (λk=>wvB hk cs cl k) cl.length (a,f);have h2:=RS (n:=cs.length) (W:=λk=>wvB hk cs cl k) (W':=λk=>wvB hk cs cl k) (show fa.toNat<=fa'.toNat by omega) cl.length (λ_ _ _ h=>h) (a,f);omega
theorem L7 {hk:Int}{cs:List UC}{cl:List Int}(hn:0<cs.length):Jd hk cs cl 0<=cs.length:=by
 have h1:=LB (l:=Z3 cs.length 0) (f:=wyK cs.length 0 (λk=>wvB hk cs cl k) cl.length) (B:=1) λq hq=>by have hg:=Zi.1 hq;have:=SJ (n:=cs.length) (mo:=0) (λk=>wvB hk cs cl k) hn cl.length q hg.2.1;rw[show q.2.toNat=0 by omega] at this;exact this
 rw[R0] at h1;show ((Z3 cs.length 0).map (wyK cs.length 0 (λk=>wvB hk cs cl k) cl.length)).sum<=_;omega
theorem Ft {α:Type}{f:α->Int}:∀ {l:List α},(∀ x∈l,1<=f x)->(l.length:Int)<=(l.map f).sum
 |[],_=>by simp
 |x::l,h=>by have h1:=h x (zq ..);have h2:=Ft (l:=l) λy hy=>h y (zi _ hy);rw[zE,xx,xi];omega
theorem Q0f {hk:Int}{cs:List UC}{cl:List Int}(hn:0<cs.length) (h:∀ k,k<cl.length->cl.getD k 0=-1):Jd hk cs cl 0=cs.length:=by
 have key:∀ k,k<=cl.length->∀ a:Int,0<=a->a<cs.length->1<=wyK cs.length 0 (λk=>wvB hk cs cl k) k (a,0):=by
  intro k;induction k with
  |zero =>
   intro _ a h0 h1;show 1<=if 0<=a/\a<(cs.length:Int)/\(0:Int)=0 then (1:Int) else 0
   rw[z8 ⟨h0,h1,rfl⟩];exact Int.le_refl _
  |succ k ih =>
   intro hj a h0 h1;have hp:=ih (by omega) (if a=0 then cs.length-1 else a-1) (by split<;>omega) (by split<;>omega);have hg:((if a=0 then (cs.length:Int)-1 else a-1),(0:Int))∈Z3 cs.length 0:=Zi.2 ⟨by dsimp only;split<;>omega,by dsimp only;omega⟩;refine Int.le_trans ?_ (SY (f:=λp=>BE cs.length 0 (λa=>wvB hk cs cl k a) p (wyK cs.length 0 (λk=>wvB hk cs cl k) k p) (a,0)) hg λp _=>Kr (QW ..));have bg:Nh cs.length ((if a=0 then (cs.length:Int)-1 else a-1),(0:Int)) 1=(a,0):=by
    unfold Nh;dsimp only;rw[z8 rfl];congr 1;split
    .rename_i e;rw[show (cs.length:Int)-1+1=cs.length by omega,e];exact Int.tmod_self
    .rw[show a-1+1=a by omega];exact Int.tmod_eq_of_lt h0 h1
   have b:=λs=>(Yq (n:=cs.length) (mo:=0) (p:=((if a=0 then (cs.length:Int)-1 else a-1),(0:Int))) (q:=(a,0)) (s:=s) (QW cs.length 0 (λk=>wvB hk cs cl k) k ((if a=0 then (cs.length:Int)-1 else a-1),(0:Int)))).1;have b0:=b 0;have b2:=b 2;have one:N2 cs.length 0 ((if a=0 then (cs.length:Int)-1 else a-1),(0:Int)) (wyK cs.length 0 (λk=>wvB hk cs cl k) k ((if a=0 then (cs.length:Int)-1 else a-1),(0:Int))) (a,0) 1=wyK cs.length 0 (λk=>wvB hk cs cl k) k ((if a=0 then (cs.length:Int)-1 else a-1),(0:Int)):=by unfold N2;rw[z8 ⟨bg,by dsimp only;omega⟩]
   have hw:∀ x,wvB hk cs cl k x=true:=λx=>by unfold wvB;rw[h k (by omega)];rfl
   unfold BE;rw[z8 (hw _)];omega
 have h1:=Ft (l:=Z3 cs.length 0) (f:=wyK cs.length 0 (λk=>wvB hk cs cl k) cl.length) λq hq=>by
  have hg:=Zi.1 hq;have e:q=(q.1,0):=by ext;rfl;dsimp only;omega
  rw[e];exact key _ (zf _) _ hg.1.1 hg.1.2
 rw[R0] at h1;have h2:=L7 (hk:=hk) (cs:=cs) (cl:=cl) hn;have h3:Jd hk cs cl 0=((Z3 cs.length 0).map (wyK cs.length 0 (λk=>wvB hk cs cl k) cl.length)).sum:=rfl;omega
theorem MY:T1:=Tb λhk cs cl fa h=>by
 obtain⟨h1,h2,h3,h4,h5⟩:=h;obtain⟨hf,cg,aB,ai⟩:=Vp h1;have bk:=xC.2 aB;unfold Y5;(try delta Ld HN HL YJ RE RN H8 Dj R8);(try delta lI gD sT I64 NF pj8 pj4);refine⟨⟨h1,h2,h3,h4,h5⟩,λm hm=>⟨m,([],[]),(by and_intros<;>first|rfl|trivial),?_⟩⟩;refine LoopP.rng m.length (λx dn=>KeyW cs.length m x dn) ⟨List.nodup_nil,λa=>⟨(λh=>by cases h),(λ⟨r,hr,_⟩=>by cases hr)⟩⟩ ?_;intro x dn hn ah hx q hq;dsimp only;refine⟨λae=>⟨(λc=>by cases c),λ_=>?_⟩,λr hr gv=>⟨λ_=>?_,(λc=>by cases c)⟩⟩
 .intro w7;refine⟨rfl,λw8 w9 pn po=>⟨(x,0,m,dn,false,w8,w9,pn,po),([],[]),(by and_intros<;>first|rfl|trivial),?_⟩⟩;dsimp only;have fC:=KeyW.len hm ah hx;refine LoopP.rng2 x.length (λys d2=>ys=d2.map λr=>(x.getD r (0,false)).1) rfl ?_;intro ys d2 p7 lL pg q2 nh;dsimp only;have hlen:ys.length=d2.length:=by rw[pg];simp
  have pq:=Mg p7 (m:=List.range x.length) λy hy=>zF.2 (lL y hy);rw[wL] at pq;refine⟨λrT=>⟨(λc=>by cases c),λ_=>?_⟩,λr hr gv=>⟨λ_=>?_,(λc=>by cases c)⟩⟩
  .have hs:=KeyW.sorted bk hm ah hx ae p7 lL rT;rw[<-pg] at hs;have hl:=(List.mergeSort_perm ys λx y:Int=>decide (x<=y)).length_eq;rw[hs] at hl;refine⟨rfl,rfl,rfl,⟨λe=>by cases ys with|nil=>cases e|cons _ _=>exact Nat.succ_pos _,by omega⟩,rfl,⟨by and_intros<;>first|rfl|trivial,⟨hs,?_⟩,trivial⟩⟩;rw[Bool.eq_iff_iff,List.isEmpty_iff,List.isEmpty_iff,<-x4,<-x4,hl]
  .have ez:List.getLastD (d2++[r]) 0=r:=by simp
   rw[ez];refine⟨by simp,rfl,λw=>⟨by simp only[xp];omega,rfl,rfl,(λc=>by cases c),λ_=>?_⟩⟩;refine⟨(d2++[r],ys++[(x.getD r (0,false)).1]),⟨⟨trivial,trivial,trivial⟩,?_⟩,nh r _ hr gv (by rw[pg];simp)⟩;and_intros<;>first|rfl|trivial|simp
 .have ez:List.getLastD (dn++[r]) 0=r:=by simp
  rw[ez];refine⟨by simp,(PT (.i .i64) x (m.getD r ((0,0),0)).1.1 true,dn++[r]),(by and_intros<;>first|rfl|trivial),hq r _ hr gv (hx.snoc r)⟩
end Go.Proofs.Tryz