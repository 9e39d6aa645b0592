/- A framework for walks, contracts of functions, and their proofs: part 6. -/
import Derived.ProofKit
import Derived.OpenShut
import Derived.LaidMore
import Derived.Carry
import Derived.Lib.SmallJoins
import Derived.Deep.Slices
import Derived.Test.YtannmfpiibodeaaGreatS5
noncomputable section
set_option linter.unusedVariables false
set_option maxRecDepth 100000
namespace Go.Proofs.Tryz
open Go Go.V Go.Proofs
def G3:AL (Int×Int×Int):=(.cons (.k (.i .i64)) (.cons (.ptr (.one (.k (.i .i64)))) (.one (.ptr (.one (.k (.i .i64)))))))
def S7 (d:Int×Int×Int):Prop:=True
def Ms (d:Int×Int×Int):SV:=.val .bo (decide (d.1<d.2.1)||decide (d.2.2<d.1))
def Ml (d:Int×Int×Int):List OB:=[]
def UD:CSp:=Y9 G3 S7 Ms Ml
def K4 (n:Int) (a:Int) (b:Int):Prop :=
 (((decide (n<a))||(decide (n > b)))=(decide (n<a)||decide (b<n))/\(True))
def Gr:Cx:=⟨[],[],13,[],0,[],[],[],[],false,[],[],[],[]⟩
def SC (n:Int) (a:Int) (b:Int):List (Nat×LoopAnn):=[]
theorem L2 (d:Int×Int×Int):gwp (Gr) (SC d.1 d.2.1 d.2.2) c68 0 (Yh [.tmp 4] (Ms d) (Ml d)) (Qo 13 (AL.can G3 d))=K4 d.1 d.2.1 d.2.2:=by kernel_rfl
abbrev SO:Prop:=OkC Tryz.prog 68 UD
theorem SW (h:∀ (n:Int) (a:Int) (b:Int),(True)->K4 n a b):OkC Tryz.prog 68 UD :=
 Qu Z85 mixed (C:=Gr) (V:=λ(d:Int×Int×Int)=>K4 d.1 d.2.1 d.2.2) ⟨.nil,XsOk.nil,ItsOk.nil,YlOk.nil,IysOk.nil,XfOk.nil⟩ (L2) λd hp=>h d.1 d.2.1 d.2.2 hp
theorem SF:SO:=SW λn a b _=>by unfold K4;(try delta lI gD sT I64 Q1 pj8 pj4);exact(by and_intros<;>first|rfl|trivial|simp)
def HO:AL (Int×Int×List Int):=(.cons (.k (.i .i64)) (.cons (.k (.i .i64)) (.one (.k (.list (.i .i64))))))
def LV (d:Int×Int×List Int):Prop:=d.2.2.length<=1000000
def DT (d:Int×Int×List Int):SV:=.val .bo (!(d.2.2.any λn=>decide (n<d.1)||decide (d.2.1<n)))
def DL (d:Int×Int×List Int):List OB:=[]
def Yf:CSp:=Y9 HO LV DT DL
def Vm (a:Int) (b:Int) (l:List Int):Prop :=
 (l.length<=1000000/\∀ x∈l,(λ(x1:Int)=>True) x)/\((!(l.any (λ(x1:Int)=>(decide (x1<a)||decide (b<x1)))))=(!(l.any λn=>decide (n<a)||decide (b<n)))/\(True))
def BE:Cx:=⟨[],[(60,QH),(68,UD)],11,[],0,[],[],[],[],false,[],[],[],[]⟩
def E7 (a:Int) (b:Int) (l:List Int):List (Nat×LoopAnn):=[]
theorem E8 (d:Int×Int×List Int):gwp (BE) (E7 d.1 d.2.1 d.2.2) c42 0 (Yh [.tmp 6] (DT d) (DL d)) (Qo 11 (AL.can HO d))=Vm d.1 d.2.1 d.2.2:=by kernel_rfl
abbrev Ah:Prop:=OkC Tryz.prog 42 Yf
theorem CU (h:∀ (a:Int) (b:Int) (l:List Int),(l.length<=1000000)->Vm a b l):OkC Tryz.prog 42 Yf :=
 Qu Z88 mixed (C:=BE) (V:=λ(d:Int×Int×List Int)=>Vm d.1 d.2.1 d.2.2) ⟨(.cons ZE (.cons SF .nil)),XsOk.nil,ItsOk.nil,YlOk.nil,IysOk.nil,XfOk.nil⟩ (E8) λd hp=>h d.1 d.2.1 d.2.2 hp
theorem Ve:Ah:=CU λa b l h=>by unfold Vm;(try delta lI gD sT I64 Q1 pj8 pj4);exact⟨⟨h,λ_ _=>trivial⟩,rfl,trivial⟩
def VK:AL (Int):=(.one (.k (.i .i64)))
def GW (d:Int):Prop:=True
def Vl (d:Int):SV:=.val .bo (inI d 1 24)
def Vn (d:Int):List OB:=[]
def J3:CSp:=Y9 VK GW Vl Vn
def XG (f:Int):Prop :=
 ([f].length<=1000000)/\((!([f].any λn=>decide (n<(1:Int))||decide ((24:Int)<n)))=(inI f 1 24)/\(True))
def Vu:Cx:=⟨[(3,(.i .i64))],[(42,Yf)],6,[],0,[],[],[],[],false,[],[],[],[]⟩
def B3 (f:Int):List (Nat×LoopAnn):=[]
theorem Bi (d:Int):gwp (Vu) (B3 d) c19 0 (Yh [.tmp 2] (Vl d) (Vn d)) (Qo 6 (AL.can VK d))=XG d:=by kernel_rfl
abbrev Bc:Prop:=OkC Tryz.prog 19 J3
theorem Bf (h:∀ (f:Int),(True)->XG f):OkC Tryz.prog 19 J3 :=
 Qu Z6p mixed (C:=Vu) (V:=λ(d:Int)=>XG d) ⟨(.cons Ve .nil),XsOk.nil,ItsOk.nil,YlOk.nil,IysOk.nil,XfOk.nil⟩ (Bi) λd hp=>h d hp
theorem XK:Bc:=Bf λf _=>by unfold XG;(try delta lI gD sT I64 Q1 pj8 pj4);have e:∀ n a b:Int,(decide (n<a)||decide (b<n))=!inI n a b:=λn a b=>(nI n a b).symm;simp only[List.any_cons,List.any_nil,xy,e,Bool.not_not,zr,List.length_nil];exact⟨by omega,(by and_intros<;>first|rfl|trivial|simp)⟩
def Vv:AL (Int×List Int):=(.cons (.k (.i .i64)) (.one (.k (.list (.i .i64)))))
def D7 (d:Int×List Int):Prop:=1<=d.1/\d.1<=24/\d.2.length<=1000000
def V5 (d:Int×List Int):SV:=.val .bo (!(d.2.any λn=>!inI n 0 (2 ^ d.1.toNat-1)))
def KZ (d:Int×List Int):List OB:=[]
def W7:CSp:=Y9 Vv D7 V5 KZ
def XL (f:Int) (l:List Int):Prop :=
 (0<=f)/\(I64 (Je .i64 (1:Int) f))/\(I64 ((Je .i64 (1:Int) f)-(1:Int)))/\(l.length<=1000000)/\((!(l.any λn=>decide (n<(0:Int))||decide (((Je .i64 (1:Int) f)-(1:Int))<n)))=(!(l.any λn=>!inI n 0 (2 ^ f.toNat-1)))/\(True))
def VI:Cx:=⟨[],[(42,Yf)],10,[],0,[],[],[],[],false,[],[],[],[]⟩
def B4 (f:Int) (l:List Int):List (Nat×LoopAnn):=[]
theorem Bn (d:Int×List Int):gwp (VI) (B4 d.1 d.2) c20 0 (Yh [.tmp 4] (V5 d) (KZ d)) (Qo 10 (AL.can Vv d))=XL d.1 d.2:=by kernel_rfl
abbrev D_:Prop:=OkC Tryz.prog 20 W7
theorem Bg (h:∀ (f:Int) (l:List Int),(1<=f/\f<=24/\l.length<=1000000)->XL f l):OkC Tryz.prog 20 W7 :=
 Qu Z9u mixed (C:=VI) (V:=λ(d:Int×List Int)=>XL d.1 d.2) ⟨(.cons Ve .nil),XsOk.nil,ItsOk.nil,YlOk.nil,IysOk.nil,XfOk.nil⟩ (Bn) λd hp=>h d.1 d.2 hp
theorem VH:D_:=Bg λf l h=>by obtain⟨h1,h2,h3⟩:=h;unfold XL;(try delta lI gD sT I64 Q1 pj8 pj4);have e:∀ n a b:Int,(decide (n<a)||decide (b<n))=!inI n a b:=λn a b=>(nI n a b).symm;obtain⟨k,rfl⟩:=zm (show 0<=f by omega);have hs:=J33 (k:=k) (by omega);have hp:=J04 (k:=k) (by omega);simp only[hs,e,z7,Q5i];exact⟨by omega,by simp only[Qm];omega,by simp only[Qm];omega,h3,(by and_intros<;>first|rfl|trivial|simp)⟩
def YH:AL (Int):=(.one (.k (.i .u64)))
def N9 (d:Int):Prop:=0<=d/\d<=18446744073709551615
def Yv (d:Int):SV:=.val (.i .u64) ((Z1u d.toNat:Nat):Int)
def Yw (d:Int):List OB:=[]
def XX:CSp:=Y9 YH N9 Yv Yw
def Ja (x:Int):Prop :=
 (0<=(8:Int))/\(0<=(8:Int))/\(InK .u64 (Je .u64 (Qa .and .u64 x (71777214294589695:Int)) (8:Int)))/\(0<=(16:Int))/\(0<=(16:Int))/\(InK .u64 (Je .u64 (Qa .and .u64 (Qa .or .u64 (Qa .and .u64 (Jj .u64 x (8:Int)) (71777214294589695:Int)) (Je .u64 (Qa .and .u64 x (71777214294589695:Int)) (8:Int))) (281470681808895:Int)) (16:Int)))/\(0<=(32:Int))/\(0<=(32:Int))/\((Qa .or .u64 (Jj .u64 (Qa .or .u64 (Qa .and .u64 (Jj .u64 (Qa .or .u64 (Qa .and .u64 (Jj .u64 x (8:Int)) (71777214294589695:Int)) (Je .u64 (Qa .and .u64 x (71777214294589695:Int)) (8:Int))) (16:Int)) (281470681808895:Int)) (Je .u64 (Qa .and .u64 (Qa .or .u64 (Qa .and .u64 (Jj .u64 x (8:Int)) (71777214294589695:Int)) (Je .u64 (Qa .and .u64 x (71777214294589695:Int)) (8:Int))) (281470681808895:Int)) (16:Int))) (32:Int)) (IntKind.wrap .u64 (Je .u64 (Qa .or .u64 (Qa .and .u64 (Jj .u64 (Qa .or .u64 (Qa .and .u64 (Jj .u64 x (8:Int)) (71777214294589695:Int)) (Je .u64 (Qa .and .u64 x (71777214294589695:Int)) (8:Int))) (16:Int)) (281470681808895:Int)) (Je .u64 (Qa .and .u64 (Qa .or .u64 (Qa .and .u64 (Jj .u64 x (8:Int)) (71777214294589695:Int)) (Je .u64 (Qa .and .u64 x (71777214294589695:Int)) (8:Int))) (281470681808895:Int)) (16:Int))) (32:Int))))=((Z1u x.toNat:Nat):Int)/\(True))
def YS:Cx:=⟨[],[],22,[20],0,[],[],[],[],false,[],[],[],[]⟩
def Nq (x:Int):List (Nat×LoopAnn):=[]
theorem Ns (d:Int):gwp (YS) (Nq d) J0v 0 (Yh [.tmp 2] (Yv d) (Yw d)) (Qo 22 (AL.can YH d))=Ja d:=by kernel_rfl
abbrev Nt:Prop:=OkC Tryz.prog 113 XX
theorem NH (h:∀ (x:Int),(0<=x/\x<=18446744073709551615)->Ja x):OkC Tryz.prog 113 XX :=
 Qu Z3p mixed (C:=YS) (V:=λ(d:Int)=>Ja d) ⟨.nil,XsOk.nil,ItsOk.nil,YlOk.nil,IysOk.nil,XfOk.nil⟩ (Ns) λd hp=>h d hp
theorem NZ:Nt:=NH λx h=>by
 obtain⟨h1,h2⟩:=h;unfold Ja;(try delta lI gD sT I64 Q1 pj8 pj4);obtain⟨n,rfl⟩:=zm h1;have hn:n<2 ^ 64:=by omega
 obtain⟨a1,a2,a3⟩:=sw8 hn;obtain⟨b1,b2,b3⟩:=J34 a3;have c1:=J3b b3;simp only[a1,b1,c1,z7];refine⟨by omega,by omega,a2,by omega,by omega,b2,by omega,by omega,?_⟩;exact(by and_intros<;>first|rfl|trivial|simp)
def Vs:AL (Int):=(.one (.k (.i .u64)))
def Dn (d:Int):Prop:=0<=d/\d<=18446744073709551615
def KS (d:Int):SV:=.val (.i .u64) ((FW 64 d.toNat:Nat):Int)
def V1 (d:Int):List OB:=[]
def YJ:CSp:=Y9 Vs Dn KS V1
def XI (x:Int):Prop :=
 (0<=(1:Int))/\(0<=(1:Int))/\(InK .u64 (Je .u64 (Qa .and .u64 x (6148914691236517205:Int)) (1:Int)))/\(0<=(2:Int))/\(0<=(2:Int))/\(InK .u64 (Je .u64 (Qa .and .u64 (Qa .or .u64 (Qa .and .u64 (Jj .u64 x (1:Int)) (6148914691236517205:Int)) (Je .u64 (Qa .and .u64 x (6148914691236517205:Int)) (1:Int))) (3689348814741910323:Int)) (2:Int)))/\(0<=(4:Int))/\(0<=(4:Int))/\(InK .u64 (Je .u64 (Qa .and .u64 (Qa .or .u64 (Qa .and .u64 (Jj .u64 (Qa .or .u64 (Qa .and .u64 (Jj .u64 x (1:Int)) (6148914691236517205:Int)) (Je .u64 (Qa .and .u64 x (6148914691236517205:Int)) (1:Int))) (2:Int)) (3689348814741910323:Int)) (Je .u64 (Qa .and .u64 (Qa .or .u64 (Qa .and .u64 (Jj .u64 x (1:Int)) (6148914691236517205:Int)) (Je .u64 (Qa .and .u64 x (6148914691236517205:Int)) (1:Int))) (3689348814741910323:Int)) (2:Int))) (1085102592571150095:Int)) (4:Int)))/\(0<=(Qa .or .u64 (Qa .and .u64 (Jj .u64 (Qa .or .u64 (Qa .and .u64 (Jj .u64 (Qa .or .u64 (Qa .and .u64 (Jj .u64 x (1:Int)) (6148914691236517205:Int)) (Je .u64 (Qa .and .u64 x (6148914691236517205:Int)) (1:Int))) (2:Int)) (3689348814741910323:Int)) (Je .u64 (Qa .and .u64 (Qa .or .u64 (Qa .and .u64 (Jj .u64 x (1:Int)) (6148914691236517205:Int)) (Je .u64 (Qa .and .u64 x (6148914691236517205:Int)) (1:Int))) (3689348814741910323:Int)) (2:Int))) (4:Int)) (1085102592571150095:Int)) (Je .u64 (Qa .and .u64 (Qa .or .u64 (Qa .and .u64 (Jj .u64 (Qa .or .u64 (Qa .and .u64 (Jj .u64 x (1:Int)) (6148914691236517205:Int)) (Je .u64 (Qa .and .u64 x (6148914691236517205:Int)) (1:Int))) (2:Int)) (3689348814741910323:Int)) (Je .u64 (Qa .and .u64 (Qa .or .u64 (Qa .and .u64 (Jj .u64 x (1:Int)) (6148914691236517205:Int)) (Je .u64 (Qa .and .u64 x (6148914691236517205:Int)) (1:Int))) (3689348814741910323:Int)) (2:Int))) (1085102592571150095:Int)) (4:Int)))/\(Qa .or .u64 (Qa .and .u64 (Jj .u64 (Qa .or .u64 (Qa .and .u64 (Jj .u64 (Qa .or .u64 (Qa .and .u64 (Jj .u64 x (1:Int)) (6148914691236517205:Int)) (Je .u64 (Qa .and .u64 x (6148914691236517205:Int)) (1:Int))) (2:Int)) (3689348814741910323:Int)) (Je .u64 (Qa .and .u64 (Qa .or .u64 (Qa .and .u64 (Jj .u64 x (1:Int)) (6148914691236517205:Int)) (Je .u64 (Qa .and .u64 x (6148914691236517205:Int)) (1:Int))) (3689348814741910323:Int)) (2:Int))) (4:Int)) (1085102592571150095:Int)) (Je .u64 (Qa .and .u64 (Qa .or .u64 (Qa .and .u64 (Jj .u64 (Qa .or .u64 (Qa .and .u64 (Jj .u64 x (1:Int)) (6148914691236517205:Int)) (Je .u64 (Qa .and .u64 x (6148914691236517205:Int)) (1:Int))) (2:Int)) (3689348814741910323:Int)) (Je .u64 (Qa .and .u64 (Qa .or .u64 (Qa .and .u64 (Jj .u64 x (1:Int)) (6148914691236517205:Int)) (Je .u64 (Qa .and .u64 x (6148914691236517205:Int)) (1:Int))) (3689348814741910323:Int)) (2:Int))) (1085102592571150095:Int)) (4:Int)))<=18446744073709551615)/\(((Z1u (Qa .or .u64 (Qa .and .u64 (Jj .u64 (Qa .or .u64 (Qa .and .u64 (Jj .u64 (Qa .or .u64 (Qa .and .u64 (Jj .u64 x (1:Int)) (6148914691236517205:Int)) (Je .u64 (Qa .and .u64 x (6148914691236517205:Int)) (1:Int))) (2:Int)) (3689348814741910323:Int)) (Je .u64 (Qa .and .u64 (Qa .or .u64 (Qa .and .u64 (Jj .u64 x (1:Int)) (6148914691236517205:Int)) (Je .u64 (Qa .and .u64 x (6148914691236517205:Int)) (1:Int))) (3689348814741910323:Int)) (2:Int))) (4:Int)) (1085102592571150095:Int)) (Je .u64 (Qa .and .u64 (Qa .or .u64 (Qa .and .u64 (Jj .u64 (Qa .or .u64 (Qa .and .u64 (Jj .u64 x (1:Int)) (6148914691236517205:Int)) (Je .u64 (Qa .and .u64 x (6148914691236517205:Int)) (1:Int))) (2:Int)) (3689348814741910323:Int)) (Je .u64 (Qa .and .u64 (Qa .or .u64 (Qa .and .u64 (Jj .u64 x (1:Int)) (6148914691236517205:Int)) (Je .u64 (Qa .and .u64 x (6148914691236517205:Int)) (1:Int))) (3689348814741910323:Int)) (2:Int))) (1085102592571150095:Int)) (4:Int))).toNat:Nat):Int)=((FW 64 x.toNat:Nat):Int)/\(True))
def Vr:Cx:=⟨[],[(113,XX)],26,[],0,[],[],[],[],false,[],[],[],[]⟩
def Bb (x:Int):List (Nat×LoopAnn):=[]
theorem B7 (d:Int):gwp (Vr) (Bb d) c94 0 (Yh [.tmp 2] (KS d) (V1 d)) (Qo 26 (AL.can Vs d))=XI d:=by kernel_rfl
abbrev Bp:Prop:=OkC Tryz.prog 94 YJ
theorem B5 (h:∀ (x:Int),(0<=x/\x<=18446744073709551615)->XI x):OkC Tryz.prog 94 YJ :=
 Qu Z69 mixed (C:=Vr) (V:=λ(d:Int)=>XI d) ⟨(.cons NZ .nil),XsOk.nil,ItsOk.nil,YlOk.nil,IysOk.nil,XfOk.nil⟩ (B7) λd hp=>h d hp
theorem B9:Bp:=B5 λx h=>by
 obtain⟨h1,h2⟩:=h;unfold XI;(try delta lI gD sT I64 Q1 pj8 pj4);obtain⟨n,rfl⟩:=zm h1;have hn:n<2 ^ 64:=by omega
 obtain⟨a1,a2,a3⟩:=sw1 hn;obtain⟨b1,b2,b3⟩:=sw2 a3;obtain⟨c1,c2,c3⟩:=sw4 b3;have hr:=J1j hn;have he:GK 4 1085102592571150095 (GK 2 3689348814741910323 (GK 1 6148914691236517205 n))=Z8p n:=rfl;simp only[a1,b1,c1,z7];rw[he,hr];rw[he] at c3;refine⟨by omega,by omega,a2,by omega,by omega,b2,by omega,by omega,c2,⟨by omega,by omega⟩,?_⟩;exact(by and_intros<;>first|rfl|trivial|simp)
def Ul:AL (Int×Int):=(.cons (.k (.i .i64)) (.one (.k (.i .i64))))
def DX (d:Int×Int):Prop:=1<=d.1/\d.1<=24/\0<=d.2/\d.2<2 ^ d.1.toNat
def VA (d:Int×Int):SV:=.val (.i .i64) (Z7o d.1 d.2)
def VM (d:Int×Int):List OB:=[]
def Kc:CSp:=Y9 Ul DX VA VM
def W0 (f:Int) (r:Int):Prop :=
 (InK .u64 r)/\(0<=r/\r<=18446744073709551615)/\(InK .u64 f)/\(InK .u64 ((64:Int)-f))/\(0<=((64:Int)-f))/\(I64 (Jj .u64 ((FW 64 r.toNat:Nat):Int) ((64:Int)-f)))/\((Jj .u64 ((FW 64 r.toNat:Nat):Int) ((64:Int)-f))=(Z7o f r)/\(True))
def Uo:Cx:=⟨[],[(94,YJ)],13,[],0,[],[],[],[],false,[],[],[],[]⟩
def HF (f:Int) (r:Int):List (Nat×LoopAnn):=[]
theorem BD (d:Int×Int):gwp (Uo) (HF d.1 d.2) c70 0 (Yh [.tmp 4] (VA d) (VM d)) (Qo 13 (AL.can Ul d))=W0 d.1 d.2:=by kernel_rfl
abbrev H6:Prop:=OkC Tryz.prog 70 Kc
theorem BI (h:∀ (f:Int) (r:Int),(1<=f/\f<=24/\0<=r/\r<2 ^ f.toNat)->W0 f r):OkC Tryz.prog 70 Kc :=
 Qu Z72 mixed (C:=Uo) (V:=λ(d:Int×Int)=>W0 d.1 d.2) ⟨(.cons B9 .nil),XsOk.nil,ItsOk.nil,YlOk.nil,IysOk.nil,XfOk.nil⟩ (BD) λd hp=>h d.1 d.2 hp
theorem HL:H6:=BI λf r h=>by
 obtain⟨h1,h2,h3,h4⟩:=h;unfold W0;(try delta lI gD sT I64 Q1 pj8 pj4);obtain⟨k,rfl⟩:=zm (show 0<=f by omega);obtain⟨n,rfl⟩:=zm h3;simp only[z7,Q5i] at h4;have hp:=J04 (k:=k) (by omega);have h4:n<2 ^ k:=by omega
 have hs:Jj .u64 ((FW 64 n:Nat):Int) (64-(k:Int))=((FW k n:Nat):Int):=by rw[show (64-(k:Int))=((64-k:Nat):Int) by omega,J18 (by omega),Q7b (by omega) h4]
 have hl:=Q9q k n;simp only[z7,hs];refine⟨by simp only[EI];omega,⟨by omega,by omega⟩,by simp only[EI];omega,by simp only[EI];omega,by omega,by simp only[Qm];omega,?_⟩;exact⟨by unfold Z7o;simp only[z7],trivial⟩
def Kp:AL ((Int×Int×Bool)×Int):=(.cons (.agg (.cons (.k (.i .i64)) (.cons (.k (.i .i64)) (.one (.k .bo))))) (.one (.ptr (.one (.k (.i .i64))))))
def Mb (d:(Int×Int×Bool)×Int):Prop:=1<=d.2/\d.2<=24
def Ka (d:(Int×Int×Bool)×Int):SV:=.val .bo (!Yl d.2 (d.1.1,(d.1.2.1,d.1.2.2)))
def K9 (d:(Int×Int×Bool)×Int):List OB:=[]
def WN:CSp:=Y9 Kp Mb Ka K9
def Jy (cn:Int) (cr:Int) (ct:Bool) (f:Int):Prop :=
 ([cn].length<=1000000)/\((!(!([cn].any λn=>decide (n<(-1:Int))||decide ((59:Int)<n))))=false->True)/\((!(!([cn].any λn=>decide (n<(-1:Int))||decide ((59:Int)<n))))=false->1<=f/\f<=24/\[cr].length<=1000000)/\(((!(!([cn].any λn=>decide (n<(-1:Int))||decide ((59:Int)<n))))||(!(!([cr].any λn=>!inI n 0 (2 ^ f.toNat-1)))))=(!Yl f (cn,(cr,ct)))/\(True))
def Ki:Cx:=⟨[(3,(.i .i64))],[(42,Yf),(20,W7)],17,[],0,[],[],[],[],false,[],[],[],[]⟩
def MH (cn:Int) (cr:Int) (ct:Bool) (f:Int):List (Nat×LoopAnn):=[]
theorem MI (d:(Int×Int×Bool)×Int):gwp (Ki) (MH d.1.1 d.1.2.1 d.1.2.2 d.2) c92 0 (Yh [.tmp 3] (Ka d) (K9 d)) (Qo 17 (AL.can Kp d))=Jy d.1.1 d.1.2.1 d.1.2.2 d.2:=by kernel_rfl
abbrev MP:Prop:=OkC Tryz.prog 92 WN
theorem MM (h:∀ (cn:Int) (cr:Int) (ct:Bool) (f:Int),(1<=f/\f<=24)->Jy cn cr ct f):OkC Tryz.prog 92 WN :=
 Qu Z8o mixed (C:=Ki) (V:=λ(d:(Int×Int×Bool)×Int)=>Jy d.1.1 d.1.2.1 d.1.2.2 d.2) ⟨(.cons Ve (.cons VH .nil)),XsOk.nil,ItsOk.nil,YlOk.nil,IysOk.nil,XfOk.nil⟩ (MI) λd hp=>h d.1.1 d.1.2.1 d.1.2.2 d.2 hp
theorem G1:MP:=MM λcn cr ct f h=>by obtain⟨h1,h2⟩:=h;unfold Jy;(try delta lI gD sT I64 Q1 pj8 pj4);have e:∀ n a b:Int,(decide (n<a)||decide (b<n))=!inI n a b:=λn a b=>(nI n a b).symm;simp only[List.any_cons,List.any_nil,xy,e,Bool.not_not,zr,List.length_nil];refine⟨by omega,λ_=>trivial,λ_=>⟨h1,h2,by omega⟩,?_⟩;unfold Yl;rw[Bool.not_and];exact(by and_intros<;>first|rfl|trivial|simp)
def ZR:AL ((List (Int×Int×Bool))×((Int×Int×Bool->Prop)×(Int×Int×Bool->Bool))):=(.cons (.k (.list (.pair (.i .i64) (.pair (.i .i64) .bo)))) (.one (.fn [(.pair (.i .i64) (.pair (.i .i64) .bo))] .bo)))
def W1 (d:(List (Int×Int×Bool))×((Int×Int×Bool->Prop)×(Int×Int×Bool->Bool))):Prop:=d.1.length<=1000000/\∀ x∈d.1,d.2.1 x
def ZH (d:(List (Int×Int×Bool))×((Int×Int×Bool->Prop)×(Int×Int×Bool->Bool))):SV:=.val (.i .i64) (Om d.1 d.2.2)
def ZI (d:(List (Int×Int×Bool))×((Int×Int×Bool->Prop)×(Int×Int×Bool->Bool))):List OB:=[]
def QM:CSp:=Y9 ZR W1 ZH ZI
def Qt (l:List (Int×Int×Bool)) (p:(Int×Int×Bool->Prop)×(Int×Int×Bool->Bool)):Prop :=
 ∃ (e2:Unit) (d20:Int),((l=l/\(SV.pf [(.pair (.i .i64) (.pair (.i .i64) .bo))] .bo p.1 p.2=SV.pf [(.pair (.i .i64) (.pair (.i .i64) .bo))] .bo p.1 p.2)/\(lI l)=(lI l)/\(0:Int)=d20/\True)/\(True)) /\
 LoopP (λ(d2:Int) (q2:(Int)->Prop) =>
  ((decide (d2<(lI l)))=true ->
   (0<=d2)/\(d2<(List.length l))/\(p.1 ((gD l d2 (0,(0,false))).1,((gD l d2 (0,(0,false))).2.1,(gD l d2 (0,(0,false))).2.2)))/\((p.2 ((gD l d2 (0,(0,false))).1,((gD l d2 (0,(0,false))).2.1,(gD l d2 (0,(0,false))).2.2)))=true ->
    (d2=(Om l p.2)/\(True))) /\
   ((p.2 ((gD l d2 (0,(0,false))).1,((gD l d2 (0,(0,false))).2.1,(gD l d2 (0,(0,false))).2.2)))=false ->
    (I64 (d2+(1:Int)))/\(∃ d3:Int,((l=l/\(SV.pf [(.pair (.i .i64) (.pair (.i .i64) .bo))] .bo p.1 p.2=SV.pf [(.pair (.i .i64) (.pair (.i .i64) .bo))] .bo p.1 p.2)/\(lI l)=(lI l)/\(d2+(1:Int))=d3/\True)/\(True))/\q2 d3))) /\
  ((decide (d2<(lI l)))=false ->
   ((-1:Int)=(Om l p.2)/\(True)))) d20
def ZL:Cx:=⟨[],[],19,[],0,[],[],[],[],false,[],[],[],[]⟩
def Wl (l:List (Int×Int×Bool)) (p:(Int×Int×Bool->Prop)×(Int×Int×Bool->Bool)):List (Nat×LoopAnn):=[(0,⟨Unit,Int,[0,1,7,8],λe x=>[.val (.list (.pair (.i .i64) (.pair (.i .i64) .bo))) l,.pf [(.pair (.i .i64) (.pair (.i .i64) .bo))] .bo p.1 p.2,.val (.i .i64) (((List.length l):Nat):Int),.val (.i .i64) x],λe x=>[]⟩)]
theorem Wn (d:(List (Int×Int×Bool))×((Int×Int×Bool->Prop)×(Int×Int×Bool->Bool))):gwp (ZL) (Wl d.1 d.2) J15 0 (Yh [.tmp 4] (ZH d) (ZI d)) (Qo 19 (AL.can ZR d))=Qt d.1 d.2:=by kernel_rfl
abbrev Wh:Prop:=OkC Tryz.prog 112 QM
theorem We (h:∀ (l:List (Int×Int×Bool)) (p:(Int×Int×Bool->Prop)×(Int×Int×Bool->Bool)),(l.length<=1000000/\∀ x∈l,p.1 x)->Qt l p):OkC Tryz.prog 112 QM :=
 Qu Z3r mixed (C:=ZL) (V:=λ(d:(List (Int×Int×Bool))×((Int×Int×Bool->Prop)×(Int×Int×Bool->Bool)))=>Qt d.1 d.2) ⟨.nil,XsOk.nil,ItsOk.nil,YlOk.nil,IysOk.nil,XfOk.nil⟩ (Wn) λd hp=>h d.1 d.2 hp
theorem Ws:Wh:=We λl p hp=>by
 unfold Qt;(try delta lI gD sT I64 Q1 pj8 pj4);simp only[true_and,and_true,exists_eq_left',exists_const,z6,zy];refine LoopP.count l.length (λk=>(l.take k).any p.2=false) (by simp) λk bz hJ q hq=>?_;simp only[z7,Int.ofNat_lt,Qm];refine⟨λao=>?_,λcA=>?_⟩
 .have ao:k<l.length:=by omega
  rw[Qf ao];refine⟨by omega,by omega,hp.2 _ (zd ao),λhx=>?_,λhx=>⟨by omega,hq ao ?_⟩⟩
  .rw[AM ao hx hJ]
  .rw[QO ao,List.any_append,hJ];simp[hx]
 .rw[zP (by omega)] at hJ;rw[R7 hJ]
def Zu:AL ((List (Int×Int×Bool))×((Int×Int×Bool->Prop)×(Int×Int×Bool->Bool))):=(.cons (.k (.list (.pair (.i .i64) (.pair (.i .i64) .bo)))) (.one (.fn [(.pair (.i .i64) (.pair (.i .i64) .bo))] .bo)))
def XA (d:(List (Int×Int×Bool))×((Int×Int×Bool->Prop)×(Int×Int×Bool->Bool))):Prop:=d.1.length<=1000000/\∀ x∈d.1,d.2.1 x
def Zk (d:(List (Int×Int×Bool))×((Int×Int×Bool->Prop)×(Int×Int×Bool->Bool))):SV:=.val .bo (d.1.any d.2.2)
def Zo (d:(List (Int×Int×Bool))×((Int×Int×Bool->Prop)×(Int×Int×Bool->Bool))):List OB:=[]
def QG:CSp:=Y9 Zu XA Zk Zo
def Qn (l:List (Int×Int×Bool)) (p:(Int×Int×Bool->Prop)×(Int×Int×Bool->Bool)):Prop :=
 (l.length<=1000000/\∀ x∈l,(λ(x1:Int×Int×Bool)=>p.1 (x1.1,(x1.2.1,x1.2.2))) x)/\((decide ((Om l (λ(x1:Int×Int×Bool)=>(p.2 (x1.1,(x1.2.1,x1.2.2)))))>=(0:Int)))=(l.any p.2)/\(True))
def Zr:Cx:=⟨[],[(112,QM)],9,[],0,[],[],[],[],false,[],[],[],[]⟩
def XR (l:List (Int×Int×Bool)) (p:(Int×Int×Bool->Prop)×(Int×Int×Bool->Bool)):List (Nat×LoopAnn):=[]
theorem XP (d:(List (Int×Int×Bool))×((Int×Int×Bool->Prop)×(Int×Int×Bool->Bool))):gwp (Zr) (XR d.1 d.2) c93 0 (Yh [.tmp 4] (Zk d) (Zo d)) (Qo 9 (AL.can Zu d))=Qn d.1 d.2:=by kernel_rfl
abbrev XO:Prop:=OkC Tryz.prog 93 QG
theorem XQ (h:∀ (l:List (Int×Int×Bool)) (p:(Int×Int×Bool->Prop)×(Int×Int×Bool->Bool)),(l.length<=1000000/\∀ x∈l,p.1 x)->Qn l p):OkC Tryz.prog 93 QG :=
 Qu Z9x mixed (C:=Zr) (V:=λ(d:(List (Int×Int×Bool))×((Int×Int×Bool->Prop)×(Int×Int×Bool->Bool)))=>Qn d.1 d.2) ⟨(.cons Ws .nil),XsOk.nil,ItsOk.nil,YlOk.nil,IysOk.nil,XfOk.nil⟩ (XP) λd hp=>h d.1 d.2 hp
theorem XM:XO:=XQ λl p hp=>by simp only[Qn];exact⟨hp,O1 l p.2,trivial⟩
def K_:AL (Int×List (Int×Int×Bool)):=(.cons (.k (.i .i64)) (.one (.k (.list (.pair (.i .i64) (.pair (.i .i64) .bo))))))
def Gh (d:Int×List (Int×Int×Bool)):Prop:=1<=d.1/\d.1<=24/\d.2.length<=1000000
def KQ (d:Int×List (Int×Int×Bool)):SV:=.val .bo (!d.2.isEmpty&&!(d.2.any λc=>!Yl d.1 c))
def KJ (d:Int×List (Int×Int×Bool)):List OB:=[]
def Jf:CSp:=Y9 K_ Gh KQ KJ
def X5 (f:Int) (cs:List (Int×Int×Bool)):Prop :=
 ((decide ((lI cs) > (0:Int)))=true->cs.length<=1000000/\∀ x∈cs,(λ(x1:Int×Int×Bool)=>1<=f/\f<=24) x)/\(((decide ((lI cs) > (0:Int)))&&(!(cs.any (λ(x1:Int×Int×Bool)=>(!Yl f (x1.1,(x1.2.1,x1.2.2)))))))=(!cs.isEmpty&&!(cs.any λc=>!Yl f c))/\(True))
def Vf:Cx:=⟨[],[(93,QG),(92,WN)],16,[],0,[],[],[],[],false,[],[],[],[]⟩
def Dp (f:Int) (cs:List (Int×Int×Bool)):List (Nat×LoopAnn):=[]
theorem D3 (d:Int×List (Int×Int×Bool)):gwp (Vf) (Dp d.1 d.2) c69 0 (Yh [.tmp 4] (KQ d) (KJ d)) (Qo 16 (AL.can K_ d))=X5 d.1 d.2:=by kernel_rfl
abbrev GQ:Prop:=OkC Tryz.prog 69 Jf
theorem GV (h:∀ (f:Int) (cs:List (Int×Int×Bool)),(1<=f/\f<=24/\cs.length<=1000000)->X5 f cs):OkC Tryz.prog 69 Jf :=
 Qu Z71 mixed (C:=Vf) (V:=λ(d:Int×List (Int×Int×Bool))=>X5 d.1 d.2) ⟨(.cons XM (.cons G1 .nil)),XsOk.nil,ItsOk.nil,YlOk.nil,IysOk.nil,XfOk.nil⟩ (D3) λd hp=>h d.1 d.2 hp
theorem Y4:GQ:=GV λf cs h=>by
 obtain⟨h1,h2,h3⟩:=h;unfold X5;(try delta lI gD sT I64 Q1 pj8 pj4);refine⟨λ_=>⟨h3,λ_ _=>⟨h1,h2⟩⟩,?_⟩;have:decide ((cs.length:Int) > 0)=!cs.isEmpty:=by cases cs<;>simp
 rw[this];exact(by and_intros<;>first|rfl|trivial|simp)
def S3:Cx:=⟨[],[(19,J3),(69,Jf)],30,[],0,[],[],[],[],false,[],[],[],[]⟩
def BX:XSp:=EW S3 (λ_=>[]) c43 [.cell 2 true 3,.tmp 3] 30
theorem PY:XOk Tryz.prog 43 BX:=Wc Z86 mixed (C:=S3) ⟨(.cons XK (.cons Y4 .nil)),XsOk.nil,ItsOk.nil,YlOk.nil,IysOk.nil,XfOk.nil⟩ _
def PR:AL (Int×List Int):=(.one (.agg (.cons (.k (.i .i64)) (.one (.k (.list (.i .i64)))))))
def AD (d:Int×List Int):Prop:=d.2.length<=1000
def Hg (d:Int×List Int):SV:=.tup [.agg [.val (.i .i64) (NW d.1 d.2),.lst 0],.val (.i .i64) (KG d.1 d.2)]
def Ht (d:Int×List Int):List OB:=[.lst 46 (.pair (.i .i64) (.pair (.i .i64) .bo)) (TW d.1 d.2) ((TW d.1 d.2).isEmpty)]
def Dr:CSp:=Y9 PR AD Hg Ht
def Ua (hk:Int) (rows:List Int):Prop :=
 (True)/\((!(inI hk 1 24))=true ->
  ((((0:Int)=(NW hk rows)/\True/\(([]:List SV)=[]))/\(2:Int)=(KG hk rows)/\(([]:List SV)=[]))/\(((TW hk rows)=[]/\(TW hk rows).isEmpty=true)/\True))) /\
 ((!(inI hk 1 24))=false ->
  ((decide ((lI rows) > (60:Int)))=true ->
   ((((0:Int)=(NW hk rows)/\True/\(([]:List SV)=[]))/\(5:Int)=(KG hk rows)/\(([]:List SV)=[]))/\(((TW hk rows)=[]/\(TW hk rows).isEmpty=true)/\True))) /\
  ((decide ((lI rows) > (60:Int)))=false ->
   (((lI rows)==(0:Int))=true ->
    ((((0:Int)=(NW hk rows)/\True/\(([]:List SV)=[]))/\(7:Int)=(KG hk rows)/\(([]:List SV)=[]))/\(((TW hk rows)=[]/\(TW hk rows).isEmpty=true)/\True))) /\
   (((lI rows)==(0:Int))=false ->
    (1<=hk/\hk<=24/\rows.length<=1000000)/\((!(!(rows.any λn=>!inI n 0 (2 ^ hk.toNat-1))))=true ->
     ((((0:Int)=(NW hk rows)/\True/\(([]:List SV)=[]))/\(2:Int)=(KG hk rows)/\(([]:List SV)=[]))/\(((TW hk rows)=[]/\(TW hk rows).isEmpty=true)/\True))) /\
    ((!(!(rows.any λn=>!inI n 0 (2 ^ hk.toNat-1))))=false ->
     ∃ (e4:Unit) (d40:(List (Int×Int×Bool))×Int),((True/\rows=rows/\(lI rows)=(lI rows)/\(0:Int)=d40.2/\True)/\((hk=hk/\True/\(([]:List SV)=[]))/\(d40.1=[]/\(List.isEmpty d40.1)=true)/\True)) /\
     LoopP (λ(d4:(List (Int×Int×Bool))×Int) (q4:((List (Int×Int×Bool))×Int)->Prop) =>
      ((decide (d4.2<(lI rows)))=true ->
       (0<=d4.2)/\(d4.2<(List.length rows))/\(((List.length d4.1)+(List.length [(d4.2,((gD rows d4.2 0),false))]))*24<=70368744177664)/\(I64 (d4.2+(1:Int)))/\(∃ d5:(List (Int×Int×Bool))×Int,((True/\rows=rows/\(lI rows)=(lI rows)/\(d4.2+(1:Int))=d5.2/\True)/\((hk=hk/\True/\(([]:List SV)=[]))/\((d4.1++[(d4.2,((gD rows d4.2 0),false))])=d5.1/\false=(List.isEmpty d5.1))/\True))/\q4 d5)) /\
      ((decide (d4.2<(lI rows)))=false ->
       (((hk=(NW hk rows)/\True/\(([]:List SV)=[]))/\(0:Int)=(KG hk rows)/\(([]:List SV)=[]))/\((d4.1=(TW hk rows)/\(List.isEmpty d4.1)=(TW hk rows).isEmpty)/\True)))) d40))))
def PO:Cx:=⟨[(46,(.pair (.i .i64) (.pair (.i .i64) .bo)))],[(19,J3),(20,W7)],54,[],0,[],[],[],[],false,[],[],[],[]⟩
def Fv (hk:Int) (rows:List Int):List (Nat×LoopAnn):=[(1,⟨Unit,(List (Int×Int×Bool))×Int,[2,37,38,39],λe x=>[.box 2 0,.val (.list (.i .i64)) rows,.val (.i .i64) (((List.length rows):Nat):Int),.val (.i .i64) x.2],λe x=>[(2,.slot 2,.cells [.val (.i .i64) hk,.lst 50] (some 36)),(50,.cell 2 1,.lst 46 (.pair (.i .i64) (.pair (.i .i64) .bo)) x.1 (List.isEmpty x.1))]⟩)]
theorem FY (d:Int×List Int):gwp (PO) (Fv d.1 d.2) c5 0 (Yh [.cell 2 true 2,.tmp 3] (Hg d) (Ht d)) (Qo 54 (AL.can PR d))=Ua d.1 d.2:=by kernel_rfl
abbrev I4:Prop:=OkC Tryz.prog 5 Dr
theorem FT (h:∀ (hk:Int) (rows:List Int),(rows.length<=1000)->Ua hk rows):OkC Tryz.prog 5 Dr :=
 Qu J2h mixed (C:=PO) (V:=λ(d:Int×List Int)=>Ua d.1 d.2) ⟨(.cons XK (.cons VH .nil)),XsOk.nil,ItsOk.nil,YlOk.nil,IysOk.nil,XfOk.nil⟩ (FY) λd hp=>h d.1 d.2 hp
theorem FG:I4:=FT λhk rows h=>by
 unfold Ua;(try delta lI gD sT I64 Q1 pj8 pj4);simp only[true_and,and_true,Bool.not_not];refine⟨λc=>?_,λc=>⟨λc2=>?_,λc2=>⟨λc3=>?_,λc3=>⟨?_,λc4=>?_,λc4=>?_⟩⟩⟩⟩
 .exact OS (by unfold KG;rw[z2 c]) (by omega)
 .have c2:=zA c2;exact OS (by unfold KG;rw[z0 (by rw[c];decide),z2 (by omega)]) (by omega)
 .have c2:=zt c2;have c3:rows=[]:=List.eq_nil_of_length_eq_zero (by have:=zA c3;omega);exact OS (by unfold KG;rw[z0 (by rw[c];decide),z0 (by omega),z2 c3]) (by omega)
 .have c:=IW c;exact⟨c.1,c.2,by omega⟩
 .have c2:=zt c2;have c3:rows≠[]:=λe=>by rw[e] at c3;cases c3
  exact OS (by unfold KG;rw[z0 (by rw[c];decide),z0 (by omega),z0 c3,z2 c4]) (by omega)
 .have c2:=zt c2;have c3:rows≠[]:=λe=>by rw[e] at c3;cases c3
  have e0:KG hk rows=0:=by unfold KG;rw[z0 (by rw[c];decide),z0 (by omega),z0 c3,z0 (by rw[c4];decide)]
  have e1:NW hk rows=hk:=by unfold NW;rw[z2 e0]
  have e2:TW hk rows=Hq rows:=by unfold TW;rw[z2 e0]
  rw[e0,e1,e2];refine⟨(),([],0),(by and_intros<;>first|rfl|trivial),?_⟩;refine LoopP.count2 rows.length (λk l=>l=Z5j rows k) rfl ?_;rintro k l hk hJ q hq;subst hJ;dsimp only;simp only[z7];refine⟨λg=>?_,λg=>?_⟩
  .have g:k<rows.length:=by have:=zA g;omega
   have hl:=Z1o rows k;refine⟨by omega,by omega,by simp only[zr,List.length_nil];omega,by simp only[Qm];omega,(Z5j rows (k+1),(k:Int)+1),?_,hq _ g rfl⟩;rw[Q9m];and_intros<;>first|rfl|trivial|simp
  .have g:k=rows.length:=by have:=zt g;omega
   subst g;exact(by and_intros<;>first|rfl|trivial|simp)
def M3:AL ((Int×(List (Int×Int×Bool))×Int)×Int):=(.cons (.agg (.cons (.k (.i .i64)) (.cons (.k (.list (.pair (.i .i64) (.pair (.i .i64) .bo)))) (.one (.k (.i .i64)))))) (.one (.k (.i .i64))))
def P9 (d:(Int×(List (Int×Int×Bool))×Int)×Int):Prop:=1<=d.1.2.2/\d.1.2.2<=24/\0<=d.2/\d.2<d.1.2.1.length/\∀ c∈d.1.2.1,Yl d.1.2.2 c=true
def UR (d:(Int×(List (Int×Int×Bool))×Int)×Int):SV:=.val (.i .i64) (Dj d.1.2.2 (d.1.2.1.getD d.2.toNat Gz))
def UJ (d:(Int×(List (Int×Int×Bool))×Int)×Int):List OB:=[]
def Va:CSp:=Y9 M3 P9 UR UJ
def Y2 (hk:Int) (cs:List (Int×Int×Bool)) (f:Int) (at_:Int):Prop :=
 (0<=at_)/\(at_<(List.length cs))/\((gD cs at_ (0,(0,false))).2.2=true ->
  (1<=f/\f<=24/\0<=((gD cs at_ (0,(0,false))).2.1)/\((gD cs at_ (0,(0,false))).2.1)<2 ^ f.toNat)/\((Z7o f ((gD cs at_ (0,(0,false))).2.1))=(Dj f (cs.getD at_.toNat Gz))/\(True))) /\
 ((gD cs at_ (0,(0,false))).2.2=false ->
  (0<=at_)/\(at_<(List.length cs))/\((gD cs at_ (0,(0,false))).2.1=(Dj f (cs.getD at_.toNat Gz))/\(True)))
def NX:Cx:=⟨[],[(70,Kc)],26,[],0,[],[],[],[],false,[],[],[],[]⟩
def TR (hk:Int) (cs:List (Int×Int×Bool)) (f:Int) (at_:Int):List (Nat×LoopAnn):=[]
theorem Tz (d:(Int×(List (Int×Int×Bool))×Int)×Int):gwp (NX) (TR d.1.1 d.1.2.1 d.1.2.2 d.2) c44 0 (Yh [.tmp 4] (UR d) (UJ d)) (Qo 26 (AL.can M3 d))=Y2 d.1.1 d.1.2.1 d.1.2.2 d.2:=by kernel_rfl
abbrev TA:Prop:=OkC Tryz.prog 44 Va
theorem TJ (h:∀ (hk:Int) (cs:List (Int×Int×Bool)) (f:Int) (at_:Int),(1<=f/\f<=24/\0<=at_/\at_<cs.length/\∀ c∈cs,Yl f c=true)->Y2 hk cs f at_):OkC Tryz.prog 44 Va :=
 Qu J02 mixed (C:=NX) (V:=λ(d:(Int×(List (Int×Int×Bool))×Int)×Int)=>Y2 d.1.1 d.1.2.1 d.1.2.2 d.2) ⟨(.cons HL .nil),XsOk.nil,ItsOk.nil,YlOk.nil,IysOk.nil,XfOk.nil⟩ (Tz) λd hp=>h d.1.1 d.1.2.1 d.1.2.2 d.2 hp
theorem Tb:TA:=TJ λhk cs f at_ h=>by
 obtain⟨h1,h2,h3,h4,h5⟩:=h;unfold Y2;(try delta lI gD sT I64 Q1 pj8 pj4);have hd:∀ j,cs.getD j (0,(0,false))=cs.getD j Gz:=λ_=>rfl;have hj:at_.toNat<cs.length:=by omega
 have hc:=Q70 (h5 _ (show cs.getD at_.toNat Gz∈cs by rw[Qf hj];exact zd hj));simp only[hd,and_true];refine⟨h3,by omega,λc=>⟨⟨h1,h2,hc.1,hc.2⟩,?_⟩,λc=>⟨h3,by omega,?_⟩⟩
 .unfold Dj;rw[z2 c]
 .unfold Dj;rw[z0 (by rw[c];decide)]
def NO:AL ((Int×(List (Int×Int×Bool))×Int)×Int×Int):=(.cons (.agg (.cons (.k (.i .i64)) (.cons (.k (.list (.pair (.i .i64) (.pair (.i .i64) .bo)))) (.one (.k (.i .i64)))))) (.cons (.k (.i .i64)) (.one (.k (.i .i64)))))
def P8 (d:(Int×(List (Int×Int×Bool))×Int)×Int×Int):Prop:=d.1.2.1≠[]/\d.1.2.1.length<=1000/\-1000000<=d.2.1/\d.2.1<=1000000/\-1000000<=d.2.2/\d.2.2<=1000000
def UL (d:(Int×(List (Int×Int×Bool))×Int)×Int×Int):SV:=.val (.i .i64) (Int.tmod (d.2.1+d.2.2) d.1.2.1.length)
def UN (d:(Int×(List (Int×Int×Bool))×Int)×Int×Int):List OB:=[]
def Vb:CSp:=Y9 NO P8 UL UN
def Y1 (hk:Int) (cs:List (Int×Int×Bool)) (f:Int) (at_:Int) (st:Int):Prop :=
 (I64 (at_+st))/\((lI cs)≠0)/\((Int.tmod (at_+st) (lI cs))=(Int.tmod (at_+st) cs.length)/\(True))
def No:Cx:=⟨[],[],15,[],0,[],[],[],[],false,[],[],[],[]⟩
def Tj (hk:Int) (cs:List (Int×Int×Bool)) (f:Int) (at_:Int) (st:Int):List (Nat×LoopAnn):=[]
theorem TC (d:(Int×(List (Int×Int×Bool))×Int)×Int×Int):gwp (No) (Tj d.1.1 d.1.2.1 d.1.2.2 d.2.1 d.2.2) c45 0 (Yh [.tmp 6] (UL d) (UN d)) (Qo 15 (AL.can NO d))=Y1 d.1.1 d.1.2.1 d.1.2.2 d.2.1 d.2.2:=by kernel_rfl
abbrev Tg:Prop:=OkC Tryz.prog 45 Vb
theorem Td (h:∀ (hk:Int) (cs:List (Int×Int×Bool)) (f:Int) (at_:Int) (st:Int),(cs≠[]/\cs.length<=1000/\-1000000<=at_/\at_<=1000000/\-1000000<=st/\st<=1000000)->Y1 hk cs f at_ st):OkC Tryz.prog 45 Vb :=
 Qu Z6y mixed (C:=No) (V:=λ(d:(Int×(List (Int×Int×Bool))×Int)×Int×Int)=>Y1 d.1.1 d.1.2.1 d.1.2.2 d.2.1 d.2.2) ⟨.nil,XsOk.nil,ItsOk.nil,YlOk.nil,IysOk.nil,XfOk.nil⟩ (TC) λd hp=>h d.1.1 d.1.2.1 d.1.2.2 d.2.1 d.2.2 hp
theorem Tl:Tg:=Td λhk cs f at_ st h=>by obtain⟨h1,h2,h3,h4,h5,h6⟩:=h;unfold Y1;(try delta lI gD sT I64 Q1 pj8 pj4);have:=x4.2 h1;exact⟨by simp only[Qm];omega,by omega,rfl,trivial⟩
def T3:AL ((Int×List (Int×Int×Bool))×Int×List Int):=(.cons (.agg (.cons (.k (.i .i64)) (.one (.k (.list (.pair (.i .i64) (.pair (.i .i64) .bo))))))) (.cons (.k (.i .i64)) (.one (.k (.list (.i .i64))))))
def CM (d:(Int×List (Int×Int×Bool))×Int×List Int):Prop:=d.1.2.length<=1000/\d.2.2.length<=1000
def By (d:(Int×List (Int×Int×Bool))×Int×List Int):SV:=.tup [.lst 0,.val (.i .i64) (Ty d.1.1 d.1.2 d.2.1 d.2.2),.val (.i .i64) (XS d.1.1 d.1.2 d.2.1 d.2.2)]
def Bt (d:(Int×List (Int×Int×Bool))×Int×List Int):List OB:=[.lst 3 (.i .i64) (Si d.1.1 d.1.2 d.2.1 d.2.2) ((Si d.1.1 d.1.2 d.2.1 d.2.2).isEmpty)]
def D8:CSp:=Y9 T3 CM By Bt
abbrev HU (hk:Int) (cs:List (Int×Int×Bool)) (a:Int) (st:List Int):=(((Si hk cs a st)=[]/\(Si hk cs a st).isEmpty=true)/\True)
abbrev U_ (cs:List (Int×Int×Bool)) (a:Int):=(!(!([a].any λn=>decide (n<(0:Int))||decide (((lI cs)-(1:Int))<n))))
abbrev Na (st:List Int):=(!(!(st.any λn=>decide (n<(0:Int))||decide ((2:Int)<n))))
abbrev HZ (hk:Int) (cs:List (Int×Int×Bool)) (a:Int) (st:List Int):=((True/\(0:Int)=(Ty hk cs a st)/\(5:Int)=(XS hk cs a st)/\(([]:List SV)=[]))/\(HU hk cs a st))
abbrev HS (hk:Int) (cs:List (Int×Int×Bool)) (a:Int) (st:List Int):=((True/\(0:Int)=(Ty hk cs a st)/\(2:Int)=(XS hk cs a st)/\(([]:List SV)=[]))/\(HU hk cs a st))
abbrev RX (hk:Int) (cs:List (Int×Int×Bool)) (a:Int) (st:List Int):=((True/\(0:Int)=(Ty hk cs a st)/\(7:Int)=(XS hk cs a st)/\(([]:List SV)=[]))/\(HU hk cs a st))
abbrev Nd (hk:Int) (cs:List (Int×Int×Bool)):=(hk=hk/\cs=cs/\hk=hk/\(([]:List SV)=[]))
abbrev Nb (st:List Int):=(decide ((lI st) > (60:Int)))
def U1 (hk:Int) (cs:List (Int×Int×Bool)) (a:Int) (st:List Int):Prop :=
 ∀ w1:List Value,(True)/\((!(inI hk 1 24))=true ->
  w1=w1/\(((3:Int) != (0:Int))=true ->
   ((True/\(0:Int)=(Ty hk cs a st)/\(3:Int)=(XS hk cs a st)/\(([]:List SV)=[]))/\(HU hk cs a st))) /\
  (((3:Int) != (0:Int))=false ->
   (I64 ((lI cs)-(1:Int)))/\([a].length<=1000000)/\((U_ cs a)=true ->
    (RX hk cs a st)) /\
   ((U_ cs a)=false ->
    ((Nb st)=true ->
     (HZ hk cs a st)) /\
    ((Nb st)=false ->
     (st.length<=1000000)/\((Na st)=true ->
      (HS hk cs a st)) /\
     ((Na st)=false ->
      ∃ (e5:Unit) (d50:(List Int)×Int×Int),((True/\a=d50.2.1/\True/\st=st/\(lI st)=(lI st)/\(0:Int)=d50.2.2/\True)/\((d50.1=[]/\(List.isEmpty d50.1)=true)/\(Nd hk cs)/\True)) /\
      LoopP (λ(d5:(List Int)×Int×Int) (q5:((List Int)×Int×Int)->Prop) =>
       ((decide (d5.2.2<(lI st)))=true ->
        (0<=d5.2.2)/\(d5.2.2<(List.length st))/\(1<=hk/\hk<=24/\0<=d5.2.1/\d5.2.1<cs.length/\∀ c∈cs,Yl hk c=true)/\(((List.length d5.1)+(List.length [(Dj hk (cs.getD d5.2.1.toNat Gz))]))*8<=70368744177664)/\(cs≠[]/\cs.length<=1000/\-1000000<=d5.2.1/\d5.2.1<=1000000/\-1000000<=(gD st d5.2.2 0)/\(gD st d5.2.2 0)<=1000000)/\(I64 (d5.2.2+(1:Int)))/\(∃ d6:(List Int)×Int×Int,((True/\(Int.tmod (d5.2.1+(gD st d5.2.2 0)) cs.length)=d6.2.1/\True/\st=st/\(lI st)=(lI st)/\(d5.2.2+(1:Int))=d6.2.2/\True)/\(((d5.1++[(Dj hk (cs.getD d5.2.1.toNat Gz))])=d6.1/\false=(List.isEmpty d6.1))/\(Nd hk cs)/\True))/\q5 d6)) /\
       ((decide (d5.2.2<(lI st)))=false ->
        ((True/\d5.2.1=(Ty hk cs a st)/\(0:Int)=(XS hk cs a st)/\(([]:List SV)=[]))/\((d5.1=(Si hk cs a st)/\(List.isEmpty d5.1)=(Si hk cs a st).isEmpty)/\True)))) d50))))) /\
 ((!(inI hk 1 24))=false ->
  ((decide ((lI cs) > (60:Int)))=true ->
   w1=w1/\(((5:Int) != (0:Int))=true ->
    (HZ hk cs a st)) /\
   (((5:Int) != (0:Int))=false ->
    (I64 ((lI cs)-(1:Int)))/\([a].length<=1000000)/\((U_ cs a)=true ->
     (RX hk cs a st)) /\
    ((U_ cs a)=false ->
     ((Nb st)=true ->
      (HZ hk cs a st)) /\
     ((Nb st)=false ->
      (st.length<=1000000)/\((Na st)=true ->
       (HS hk cs a st)) /\
      ((Na st)=false ->
       ∃ (ae:Unit) (d100:(List Int)×Int×Int),((True/\a=d100.2.1/\True/\st=st/\(lI st)=(lI st)/\(0:Int)=d100.2.2/\True)/\((d100.1=[]/\(List.isEmpty d100.1)=true)/\(Nd hk cs)/\True)) /\
       LoopP (λ(d10:(List Int)×Int×Int) (iX:((List Int)×Int×Int)->Prop) =>
        ((decide (d10.2.2<(lI st)))=true ->
         (0<=d10.2.2)/\(d10.2.2<(List.length st))/\(1<=hk/\hk<=24/\0<=d10.2.1/\d10.2.1<cs.length/\∀ c∈cs,Yl hk c=true)/\(((List.length d10.1)+(List.length [(Dj hk (cs.getD d10.2.1.toNat Gz))]))*8<=70368744177664)/\(cs≠[]/\cs.length<=1000/\-1000000<=d10.2.1/\d10.2.1<=1000000/\-1000000<=(gD st d10.2.2 0)/\(gD st d10.2.2 0)<=1000000)/\(I64 (d10.2.2+(1:Int)))/\(∃ d11:(List Int)×Int×Int,((True/\(Int.tmod (d10.2.1+(gD st d10.2.2 0)) cs.length)=d11.2.1/\True/\st=st/\(lI st)=(lI st)/\(d10.2.2+(1:Int))=d11.2.2/\True)/\(((d10.1++[(Dj hk (cs.getD d10.2.1.toNat Gz))])=d11.1/\false=(List.isEmpty d11.1))/\(Nd hk cs)/\True))/\iX d11)) /\
        ((decide (d10.2.2<(lI st)))=false ->
         ((True/\d10.2.1=(Ty hk cs a st)/\(0:Int)=(XS hk cs a st)/\(([]:List SV)=[]))/\((d10.1=(Si hk cs a st)/\(List.isEmpty d10.1)=(Si hk cs a st).isEmpty)/\True)))) d100))))) /\
  ((decide ((lI cs) > (60:Int)))=false ->
   (1<=hk/\hk<=24/\cs.length<=1000000)/\((!(!cs.isEmpty&&!(cs.any λc=>!Yl hk c)))=true ->
    w1=w1/\(((2:Int) != (0:Int))=true ->
     (HS hk cs a st)) /\
    (((2:Int) != (0:Int))=false ->
     (I64 ((lI cs)-(1:Int)))/\([a].length<=1000000)/\((U_ cs a)=true ->
      (RX hk cs a st)) /\
     ((U_ cs a)=false ->
      ((Nb st)=true ->
       (HZ hk cs a st)) /\
      ((Nb st)=false ->
       (st.length<=1000000)/\((Na st)=true ->
        (HS hk cs a st)) /\
       ((Na st)=false ->
        ∃ (az:Unit) (ec:(List Int)×Int×Int),((True/\a=ec.2.1/\True/\st=st/\(lI st)=(lI st)/\(0:Int)=ec.2.2/\True)/\((ec.1=[]/\(List.isEmpty ec.1)=true)/\(Nd hk cs)/\True)) /\
        LoopP (λ(d15:(List Int)×Int×Int) (rE:((List Int)×Int×Int)->Prop) =>
         ((decide (d15.2.2<(lI st)))=true ->
          (0<=d15.2.2)/\(d15.2.2<(List.length st))/\(1<=hk/\hk<=24/\0<=d15.2.1/\d15.2.1<cs.length/\∀ c∈cs,Yl hk c=true)/\(((List.length d15.1)+(List.length [(Dj hk (cs.getD d15.2.1.toNat Gz))]))*8<=70368744177664)/\(cs≠[]/\cs.length<=1000/\-1000000<=d15.2.1/\d15.2.1<=1000000/\-1000000<=(gD st d15.2.2 0)/\(gD st d15.2.2 0)<=1000000)/\(I64 (d15.2.2+(1:Int)))/\(∃ d16:(List Int)×Int×Int,((True/\(Int.tmod (d15.2.1+(gD st d15.2.2 0)) cs.length)=d16.2.1/\True/\st=st/\(lI st)=(lI st)/\(d15.2.2+(1:Int))=d16.2.2/\True)/\(((d15.1++[(Dj hk (cs.getD d15.2.1.toNat Gz))])=d16.1/\false=(List.isEmpty d16.1))/\(Nd hk cs)/\True))/\rE d16)) /\
         ((decide (d15.2.2<(lI st)))=false ->
          ((True/\d15.2.1=(Ty hk cs a st)/\(0:Int)=(XS hk cs a st)/\(([]:List SV)=[]))/\((d15.1=(Si hk cs a st)/\(List.isEmpty d15.1)=(Si hk cs a st).isEmpty)/\True)))) ec))))) /\
   ((!(!cs.isEmpty&&!(cs.any λc=>!Yl hk c)))=false ->
    w1=w1/\(((0:Int) != (0:Int))=true ->
     ((True/\(0:Int)=(Ty hk cs a st)/\(0:Int)=(XS hk cs a st)/\(([]:List SV)=[]))/\(HU hk cs a st))) /\
    (((0:Int) != (0:Int))=false ->
     (I64 ((lI cs)-(1:Int)))/\([a].length<=1000000)/\((U_ cs a)=true ->
      (RX hk cs a st)) /\
     ((U_ cs a)=false ->
      ((Nb st)=true ->
       (HZ hk cs a st)) /\
      ((Nb st)=false ->
       (st.length<=1000000)/\((Na st)=true ->
        (HS hk cs a st)) /\
       ((Na st)=false ->
        ∃ (wu:Unit) (iK:(List Int)×Int×Int),((True/\a=iK.2.1/\True/\st=st/\(lI st)=(lI st)/\(0:Int)=iK.2.2/\True)/\((iK.1=[]/\(List.isEmpty iK.1)=true)/\(Nd hk cs)/\True)) /\
        LoopP (λ(d20:(List Int)×Int×Int) (vu:((List Int)×Int×Int)->Prop) =>
         ((decide (d20.2.2<(lI st)))=true ->
          (0<=d20.2.2)/\(d20.2.2<(List.length st))/\(1<=hk/\hk<=24/\0<=d20.2.1/\d20.2.1<cs.length/\∀ c∈cs,Yl hk c=true)/\(((List.length d20.1)+(List.length [(Dj hk (cs.getD d20.2.1.toNat Gz))]))*8<=70368744177664)/\(cs≠[]/\cs.length<=1000/\-1000000<=d20.2.1/\d20.2.1<=1000000/\-1000000<=(gD st d20.2.2 0)/\(gD st d20.2.2 0)<=1000000)/\(I64 (d20.2.2+(1:Int)))/\(∃ d21:(List Int)×Int×Int,((True/\(Int.tmod (d20.2.1+(gD st d20.2.2 0)) cs.length)=d21.2.1/\True/\st=st/\(lI st)=(lI st)/\(d20.2.2+(1:Int))=d21.2.2/\True)/\(((d20.1++[(Dj hk (cs.getD d20.2.1.toNat Gz))])=d21.1/\false=(List.isEmpty d21.1))/\(Nd hk cs)/\True))/\vu d21)) /\
         ((decide (d20.2.2<(lI st)))=false ->
          ((True/\d20.2.1=(Ty hk cs a st)/\(0:Int)=(XS hk cs a st)/\(([]:List SV)=[]))/\((d20.1=(Si hk cs a st)/\(List.isEmpty d20.1)=(Si hk cs a st).isEmpty)/\True)))) iK)))))))
def T6:Cx:=⟨[(3,(.i .i64))],[(19,J3),(42,Yf),(44,Va),(45,Vb),(69,Jf)],58,[],0,[(43,BX)],[],[],[],false,[],[],[],[]⟩
def FN (hk:Int) (cs:List (Int×Int×Bool)) (a:Int) (st:List Int):List (Nat×LoopAnn):=[(1,⟨Unit,(List Int)×Int×Int,[6,7,9,39,40,41],λe x=>[.lst 50,.val (.i .i64) x.2.1,.box 9 0,.val (.list (.i .i64)) st,.val (.i .i64) (((List.length st):Nat):Int),.val (.i .i64) x.2.2],λe x=>[(50,.slot 6,.lst 3 (.i .i64) x.1 (List.isEmpty x.1)),(9,.slot 9,.cells [.val (.i .i64) hk,.val (.list (.pair (.i .i64) (.pair (.i .i64) .bo))) cs,.val (.i .i64) hk] (some 79))]⟩)]
theorem FB (d:(Int×List (Int×Int×Bool))×Int×List Int):gwp (T6) (FN d.1.1 d.1.2 d.2.1 d.2.2) c22 0 (Yh [.tmp 6,.tmp 7,.tmp 8] (By d) (Bt d)) (Qo 58 (AL.can T3 d))=U1 d.1.1 d.1.2 d.2.1 d.2.2:=by kernel_rfl
abbrev FV:Prop:=OkC Tryz.prog 22 D8
theorem FU (h:∀ (hk:Int) (cs:List (Int×Int×Bool)) (a:Int) (st:List Int),(cs.length<=1000/\st.length<=1000)->U1 hk cs a st):OkC Tryz.prog 22 D8 :=
 Qu Z94 mixed (C:=T6) (V:=λ(d:(Int×List (Int×Int×Bool))×Int×List Int)=>U1 d.1.1 d.1.2 d.2.1 d.2.2) ⟨(.cons XK (.cons Ve (.cons Tb (.cons Tl (.cons Y4 .nil))))),(XsOk.cons PY XsOk.nil),ItsOk.nil,YlOk.nil,IysOk.nil,XfOk.nil⟩ (FB) λd hp=>h d.1.1 d.1.2 d.2.1 d.2.2 hp
theorem I9:FV:=FU λhk cs a st h=>by
 obtain⟨h1,h2⟩:=h;unfold U1;(try delta HU U_ Na HZ HS RX Nd Nb);(try delta lI gD sT I64 Q1 pj8 pj4);intro vals;have e:∀ n a b:Int,(decide (n<a)||decide (b<n))=!inI n a b:=λn a b=>(nI n a b).symm;simp only[true_and,and_true,List.any_cons,List.any_nil,xy,e,Bool.not_not,zr,List.length_nil];refine⟨λc=>⟨λ_=>?_,(λd=>by cases d)⟩,λc=>⟨λc2=>⟨λ_=>?_,(λd=>by cases d)⟩,λc2=>⟨?_,λc3=>⟨λ_=>?_,(λd=>by cases d)⟩,λc3=>⟨(λd=>by cases d),λ_=>?_⟩⟩⟩⟩
 .have hb:Wf hk cs=3:=by unfold Wf;rw[z2 c]
  exact GG (by unfold XS;rw[hb];rfl) (by omega)
 .have c2:=zA c2;have hb:Wf hk cs=5:=by unfold Wf;rw[z0 (by rw[c];decide),z2 (by omega)]
  exact GG (by unfold XS;rw[hb];rfl) (by omega)
 .have c:=IW c;exact⟨c.1,c.2,by omega⟩
 .have c2:=zt c2;have hb:=Q66 c (by omega) c3;exact GG (by unfold XS;rw[hb];rfl) (by omega)
 .have c2:=zt c2;obtain⟨hb,aJ,au⟩:=Q2c c (by omega) c3;have hc:=IW c;have cT:=x4.2 aJ;refine⟨by simp only[Qm];omega,by omega,λc4=>?_,λc4=>⟨λc5=>?_,λc5=>⟨by omega,λc6=>?_,λc6=>?_⟩⟩⟩
  .exact GG (by unfold XS;rw[hb,z0 (by omega),z2 c4]) (by omega)
  .have c5:=zA c5;exact GG (by unfold XS;rw[hb,z0 (by omega),z0 (by rw[c4];decide),z2 (by omega)]) (by omega)
  .have c5:=zt c5;exact GG (by unfold XS;rw[hb,z0 (by omega),z0 (by rw[c4];decide),z0 (by omega),z2 c6]) (by omega)
  .have c5:=zt c5;have e0:XS hk cs a st=0:=by unfold XS;rw[hb,z0 (by omega),z0 (by rw[c4];decide),z0 (by omega),z0 (by rw[c6];decide)]
   have e1:Ty hk cs a st=atK cs.length a st st.length:=by unfold Ty;rw[z2 e0]
   have e2:Si hk cs a st=Fe hk cs a st st.length:=by unfold Si;rw[z2 e0]
   have ha:=IW c4;have bn:∀ s∈st,0<=s/\s<=2:=λs hs=>by have:=xc.1 c6 s hs;exact IW (by simpa using this)
   rw[e0,e1,e2];refine⟨(),([],a,0),(by and_intros<;>first|rfl|trivial),?_⟩;refine⟨λd=>∃ k:Nat,d.2.2=k/\k<=st.length/\d.1=Fe hk cs a st k/\d.2.1=atK cs.length a st k,λd=>st.length-d.2.2.toNat,⟨0,rfl,by omega,rfl,rfl⟩,?_⟩;rintro⟨l,p,k'⟩ ⟨k,f1,f2,f3,f4⟩;dsimp only at f1 f3 f4 |-;subst f1 f3 f4;have aQ:=Z3w (a:=a) (st:=st) cT (by omega) (by omega) (λs hs=>(bn s hs).1) k;simp only[z7];refine⟨λg=>?_,λg=>?_⟩
   .have g:k<st.length:=by have:=zA g;omega
    have hs:=bn (st.getD k 0) (by rw[Qf g];exact zd g);have hl:=Am hk cs a st k;refine⟨by omega,by omega,⟨hc.1,hc.2,aQ.1,by omega,au⟩,by omega,⟨aJ,h1,by omega,by omega,by omega,by omega⟩,by simp only[Qm];omega,(Fe hk cs a st (k+1),atK cs.length a st (k+1),(k:Int)+1),?_,⟨k+1,by simp,by omega,rfl,rfl⟩,by dsimp only;omega⟩;rw[Q7j];and_intros<;>first|rfl|trivial|simp
   .have g:k=st.length:=by have:=zt g;omega
    subst g;exact(by and_intros<;>first|rfl|trivial|simp)
def DF:AL (Int):=(.one (.k (.i .i64)))
def So (d:Int):Prop:=True
def Gx (d:Int):SV:=.val .bo false
def Gt (d:Int):List OB:=[]
def NQ:CSp:=Y9 DF So Gx Gt
def Kv (a:Int):Prop :=
 ((a != a)=false/\(True))
def DC:Cx:=⟨[],[],6,[],0,[],[],[],[],false,[],[],[],[]⟩
def LG (a:Int):List (Nat×LoopAnn):=[]
theorem LH (d:Int):gwp (DC) (LG d) c59 0 (Yh [.tmp 2] (Gx d) (Gt d)) (Qo 6 (AL.can DF d))=Kv d:=by kernel_rfl
abbrev LI:Prop:=OkC Tryz.prog 59 NQ
theorem LP (h:∀ (a:Int),(True)->Kv a):OkC Tryz.prog 59 NQ :=
 Qu Z7t mixed (C:=DC) (V:=λ(d:Int)=>Kv d) ⟨.nil,XsOk.nil,ItsOk.nil,YlOk.nil,IysOk.nil,XfOk.nil⟩ (LH) λd hp=>h d hp
theorem LW:LI:=LP λa _=>by unfold Kv;(try delta lI gD sT I64 Q1 pj8 pj4);simp
def Mm:AL (Int×Int):=(.cons (.k (.i .i64)) (.one (.k (.i .i64))))
def T9 (d:Int×Int):Prop:=True
def NN (d:Int×Int):SV:=.val (.i .i64) (Q4t d.1 d.2)
def M0 (d:Int×Int):List OB:=[]
def VR:CSp:=Y9 Mm T9 NN M0
def Yt (a:Int) (b:Int):Prop :=
 (True)/\(True)/\(false=true ->
  (false=true ->
   ((0:Int)=(Q4t a b)/\(True))) /\
  (false=false ->
   ((-1:Int)=(Q4t a b)/\(True)))) /\
 (false=false ->
  (false=true ->
   ((1:Int)=(Q4t a b)/\(True))) /\
  (false=false ->
   ((decide (a<b))=true ->
    ((-1:Int)=(Q4t a b)/\(True))) /\
   ((decide (a<b))=false ->
    ((decide (a > b))=true ->
     ((1:Int)=(Q4t a b)/\(True))) /\
    ((decide (a > b))=false ->
     ((0:Int)=(Q4t a b)/\(True))))))
def Mj:Cx:=⟨[],[(59,NQ)],20,[],0,[],[],[],[],false,[],[],[],[]⟩
def R4 (a:Int) (b:Int):List (Nat×LoopAnn):=[]
theorem RB (d:Int×Int):gwp (Mj) (R4 d.1 d.2) c32 0 (Yh [.tmp 4] (NN d) (M0 d)) (Qo 20 (AL.can Mm d))=Yt d.1 d.2:=by kernel_rfl
abbrev T_:Prop:=OkC Tryz.prog 32 VR
theorem RM (h:∀ (a:Int) (b:Int),(True)->Yt a b):OkC Tryz.prog 32 VR :=
 Qu Z8z mixed (C:=Mj) (V:=λ(d:Int×Int)=>Yt d.1 d.2) ⟨(.cons LW .nil),XsOk.nil,ItsOk.nil,YlOk.nil,IysOk.nil,XfOk.nil⟩ (RB) λd hp=>h d.1 d.2 hp
theorem Sc:T_:=RM λa b _=>by
 unfold Yt;(try delta lI gD sT I64 Q1 pj8 pj4);simp only[z6,zy,true_and,and_true,z6,zy,gt_iff_lt,false_implies,zj,forall_const];unfold Q4t;refine⟨λh=>?_,λh=>⟨λh2=>?_,λh2=>?_⟩⟩
 .rw[z2 h]
 .rw[z0 h,z2 h2]
 .rw[z0 h,z0 h2]
def HG:AL ((Int×Int×Bool)×Int×Int×Bool):=(.cons (.agg (.cons (.k (.i .i64)) (.cons (.k (.i .i64)) (.one (.k .bo))))) (.one (.agg (.cons (.k (.i .i64)) (.cons (.k (.i .i64)) (.one (.k .bo)))))))
def LO (d:(Int×Int×Bool)×Int×Int×Bool):Prop:=True
def DE (d:(Int×Int×Bool)×Int×Int×Bool):SV:=.val (.i .i64) (Q4t d.1.1 d.2.1)
def DS (d:(Int×Int×Bool)×Int×Int×Bool):List OB:=[]
def U3:CSp:=Y9 HG LO DE DS
def Vd (cn:Int) (cr:Int) (ct:Bool) (dn:Int) (dr:Int) (dt:Bool):Prop :=
 (True)/\((Q4t cn dn)=(Q4t cn dn)/\(True))
def H2:Cx:=⟨[],[(32,VR)],10,[],0,[],[],[],[],false,[],[],[],[]⟩
def CO (cn:Int) (cr:Int) (ct:Bool) (dn:Int) (dr:Int) (dt:Bool):List (Nat×LoopAnn):=[]
theorem AA (d:(Int×Int×Bool)×Int×Int×Bool):gwp (H2) (CO d.1.1 d.1.2.1 d.1.2.2 d.2.1 d.2.2.1 d.2.2.2) c31 0 (Yh [.tmp 4] (DE d) (DS d)) (Qo 10 (AL.can HG d))=Vd d.1.1 d.1.2.1 d.1.2.2 d.2.1 d.2.2.1 d.2.2.2:=by kernel_rfl
abbrev ES:Prop:=OkC Tryz.prog 31 U3
theorem A6 (h:∀ (cn:Int) (cr:Int) (ct:Bool) (dn:Int) (dr:Int) (dt:Bool),(True)->Vd cn cr ct dn dr dt):OkC Tryz.prog 31 U3 :=
 Qu Z9t mixed (C:=H2) (V:=λ(d:(Int×Int×Bool)×Int×Int×Bool)=>Vd d.1.1 d.1.2.1 d.1.2.2 d.2.1 d.2.2.1 d.2.2.2) ⟨(.cons Sc .nil),XsOk.nil,ItsOk.nil,YlOk.nil,IysOk.nil,XfOk.nil⟩ (AA) λd hp=>h d.1.1 d.1.2.1 d.1.2.2 d.2.1 d.2.2.1 d.2.2.2 hp
theorem HH:ES:=A6 λcn cr ct dn dr dt _=>by unfold Vd;exact(by and_intros<;>first|rfl|trivial|simp)
def Mi:AL (Int):=(.one (.k (.i .u32)))
def TS (d:Int):Prop:=False
def NB (d:Int):SV:=.val (.i .i64) (IB d)
def NT (d:Int):List OB:=[]
def V_:CSp:=Y9 Mi TS NB NT
def KX (x:Int):Prop :=
 ((decide (x>=(65536:Int)))=true ->
  (0<=(16:Int))/\((decide ((Jj .u32 x (16:Int))>=(256:Int)))=true ->
   (0<=(8:Int))/\(I64 ((16:Int)+(8:Int)))/\(InK .u8 (Jj .u32 (Jj .u32 x (16:Int)) (8:Int)))/\(0<=(Jj .u32 (Jj .u32 x (16:Int)) (8:Int)))/\((Jj .u32 (Jj .u32 x (16:Int)) (8:Int))<(List.length len8T))/\(I64 ((UInt8.toNat (gD len8T (Jj .u32 (Jj .u32 x (16:Int)) (8:Int)) 0):Nat):Int))/\(I64 (((16:Int)+(8:Int))+((UInt8.toNat (gD len8T (Jj .u32 (Jj .u32 x (16:Int)) (8:Int)) 0):Nat):Int)))/\((((16:Int)+(8:Int))+((UInt8.toNat (gD len8T (Jj .u32 (Jj .u32 x (16:Int)) (8:Int)) 0):Nat):Int))=(IB x)/\(True))) /\
  ((decide ((Jj .u32 x (16:Int))>=(256:Int)))=false ->
   (InK .u8 (Jj .u32 x (16:Int)))/\(0<=(Jj .u32 x (16:Int)))/\((Jj .u32 x (16:Int))<(List.length len8T))/\(I64 ((UInt8.toNat (gD len8T (Jj .u32 x (16:Int)) 0):Nat):Int))/\(I64 ((16:Int)+((UInt8.toNat (gD len8T (Jj .u32 x (16:Int)) 0):Nat):Int)))/\(((16:Int)+((UInt8.toNat (gD len8T (Jj .u32 x (16:Int)) 0):Nat):Int))=(IB x)/\(True)))) /\
 ((decide (x>=(65536:Int)))=false ->
  ((decide (x>=(256:Int)))=true ->
   (0<=(8:Int))/\(I64 ((0:Int)+(8:Int)))/\(InK .u8 (Jj .u32 x (8:Int)))/\(0<=(Jj .u32 x (8:Int)))/\((Jj .u32 x (8:Int))<(List.length len8T))/\(I64 ((UInt8.toNat (gD len8T (Jj .u32 x (8:Int)) 0):Nat):Int))/\(I64 (((0:Int)+(8:Int))+((UInt8.toNat (gD len8T (Jj .u32 x (8:Int)) 0):Nat):Int)))/\((((0:Int)+(8:Int))+((UInt8.toNat (gD len8T (Jj .u32 x (8:Int)) 0):Nat):Int))=(IB x)/\(True))) /\
  ((decide (x>=(256:Int)))=false ->
   (InK .u8 x)/\(0<=x)/\(x<(List.length len8T))/\(I64 ((UInt8.toNat (gD len8T x 0):Nat):Int))/\(I64 ((0:Int)+((UInt8.toNat (gD len8T x 0):Nat):Int)))/\(((0:Int)+((UInt8.toNat (gD len8T x 0):Nat):Int))=(IB x)/\(True))))
def MD:Cx:=⟨[],[],19,[],0,[],[],[],[],false,[],[],[],[]⟩
def RI (x:Int):List (Nat×LoopAnn):=[]
theorem S5 (d:Int):gwp (MD) (RI d) J0o 0 (Yh [.tmp 2] (NB d) (NT d)) (Qo 19 (AL.can Mi d))=KX d:=by kernel_rfl
abbrev RZ:Prop:=OkC Tryz.prog 109 V_
theorem Ri (h:∀ (x:Int),(False)->KX x):OkC Tryz.prog 109 V_ :=
 Qu Z38 mixed (C:=MD) (V:=λ(d:Int)=>KX d) ⟨.nil,XsOk.nil,ItsOk.nil,YlOk.nil,IysOk.nil,XfOk.nil⟩ (S5) λd hp=>h d hp
theorem RL:RZ:=Ri λx h=>h.elim
def ME:AL (Int):=(.one (.k (.i .u64)))
def Tf (d:Int):Prop:=0<=d/\d<=255
def M7 (d:Int):SV:=.val (.i .i64) (IB d)
def Nz (d:Int):List OB:=[]
def VU:CSp:=Y9 ME Tf M7 Nz
abbrev V9 (x:Int):=(Jj .u64 (Jj .u64 x (32:Int)) (16:Int))
abbrev Sg (x:Int):=(Jj .u64 (Jj .u64 x (32:Int)) (8:Int))
abbrev RC (x:Int):=(Jj .u64 (Jj .u64 x (16:Int)) (8:Int))
abbrev Cf (x:Int):=((UInt8.toNat (gD len8T (Jj .u64 (V9 x) (8:Int)) 0):Nat):Int)
abbrev Co (x:Int):=((UInt8.toNat (gD len8T (Jj .u64 x (32:Int)) 0):Nat):Int)
abbrev Cj (x:Int):=((UInt8.toNat (gD len8T (Jj .u64 x (16:Int)) 0):Nat):Int)
abbrev Cp (x:Int):=((UInt8.toNat (gD len8T (Jj .u64 x (8:Int)) 0):Nat):Int)
abbrev CA :=(((32:Int)+(16:Int))+(8:Int))
abbrev Ci :=(((0:Int)+(16:Int))+(8:Int))
abbrev Cq (x:Int):=((UInt8.toNat (gD len8T (V9 x) 0):Nat):Int)
abbrev Sb (x:Int):=((UInt8.toNat (gD len8T (Sg x) 0):Nat):Int)
abbrev Rt (x:Int):=((UInt8.toNat (gD len8T (RC x) 0):Nat):Int)
def Yj (x:Int):Prop :=
 ((decide (x>=(4294967296:Int)))=true ->
  (0<=(32:Int))/\((decide ((Jj .u64 x (32:Int))>=(65536:Int)))=true ->
   (0<=(16:Int))/\(I64 ((32:Int)+(16:Int)))/\((decide ((V9 x)>=(256:Int)))=true ->
    (0<=(8:Int))/\(I64 CA)/\(InK .u8 (Jj .u64 (V9 x) (8:Int)))/\(0<=(Jj .u64 (V9 x) (8:Int)))/\((Jj .u64 (V9 x) (8:Int))<(List.length len8T))/\(I64 (Cf x))/\(I64 (CA+(Cf x)))/\((CA+(Cf x))=(IB x)/\(True))) /\
   ((decide ((V9 x)>=(256:Int)))=false ->
    (InK .u8 (V9 x))/\(0<=(V9 x))/\((V9 x)<(List.length len8T))/\(I64 (Cq x))/\(I64 (((32:Int)+(16:Int))+(Cq x)))/\((((32:Int)+(16:Int))+(Cq x))=(IB x)/\(True)))) /\
  ((decide ((Jj .u64 x (32:Int))>=(65536:Int)))=false ->
   ((decide ((Jj .u64 x (32:Int))>=(256:Int)))=true ->
    (0<=(8:Int))/\(I64 ((32:Int)+(8:Int)))/\(InK .u8 (Sg x))/\(0<=(Sg x))/\((Sg x)<(List.length len8T))/\(I64 (Sb x))/\(I64 (((32:Int)+(8:Int))+(Sb x)))/\((((32:Int)+(8:Int))+(Sb x))=(IB x)/\(True))) /\
   ((decide ((Jj .u64 x (32:Int))>=(256:Int)))=false ->
    (InK .u8 (Jj .u64 x (32:Int)))/\(0<=(Jj .u64 x (32:Int)))/\((Jj .u64 x (32:Int))<(List.length len8T))/\(I64 (Co x))/\(I64 ((32:Int)+(Co x)))/\(((32:Int)+(Co x))=(IB x)/\(True))))) /\
 ((decide (x>=(4294967296:Int)))=false ->
  ((decide (x>=(65536:Int)))=true ->
   (0<=(16:Int))/\(I64 ((0:Int)+(16:Int)))/\((decide ((Jj .u64 x (16:Int))>=(256:Int)))=true ->
    (0<=(8:Int))/\(I64 Ci)/\(InK .u8 (RC x))/\(0<=(RC x))/\((RC x)<(List.length len8T))/\(I64 (Rt x))/\(I64 (Ci+(Rt x)))/\((Ci+(Rt x))=(IB x)/\(True))) /\
   ((decide ((Jj .u64 x (16:Int))>=(256:Int)))=false ->
    (InK .u8 (Jj .u64 x (16:Int)))/\(0<=(Jj .u64 x (16:Int)))/\((Jj .u64 x (16:Int))<(List.length len8T))/\(I64 (Cj x))/\(I64 (((0:Int)+(16:Int))+(Cj x)))/\((((0:Int)+(16:Int))+(Cj x))=(IB x)/\(True)))) /\
  ((decide (x>=(65536:Int)))=false ->
   ((decide (x>=(256:Int)))=true ->
    (0<=(8:Int))/\(I64 ((0:Int)+(8:Int)))/\(InK .u8 (Jj .u64 x (8:Int)))/\(0<=(Jj .u64 x (8:Int)))/\((Jj .u64 x (8:Int))<(List.length len8T))/\(I64 (Cp x))/\(I64 (((0:Int)+(8:Int))+(Cp x)))/\((((0:Int)+(8:Int))+(Cp x))=(IB x)/\(True))) /\
   ((decide (x>=(256:Int)))=false ->
    (InK .u8 x)/\(0<=x)/\(x<(List.length len8T))/\(I64 ((UInt8.toNat (gD len8T x 0):Nat):Int))/\(I64 ((0:Int)+((UInt8.toNat (gD len8T x 0):Nat):Int)))/\(((0:Int)+((UInt8.toNat (gD len8T x 0):Nat):Int))=(IB x)/\(True)))))
def Mt:Cx:=⟨[],[],25,[],0,[],[],[],[],false,[],[],[],[]⟩
def Rl (x:Int):List (Nat×LoopAnn):=[]
theorem S2 (d:Int):gwp (Mt) (Rl d) J0p 0 (Yh [.tmp 2] (M7 d) (Nz d)) (Qo 25 (AL.can ME d))=Yj d:=by kernel_rfl
abbrev Rv:Prop:=OkC Tryz.prog 110 VU
theorem Rk (h:∀ (x:Int),(0<=x/\x<=255)->Yj x):OkC Tryz.prog 110 VU :=
 Qu Z3u mixed (C:=Mt) (V:=λ(d:Int)=>Yj d) ⟨.nil,XsOk.nil,ItsOk.nil,YlOk.nil,IysOk.nil,XfOk.nil⟩ (S2) λd hp=>h d hp
theorem R5:Rv:=Rk λx h=>by
 obtain⟨h1,h2⟩:=h;unfold Yj;(try delta V9 Sg RC Cf Co Cj Cp CA Ci Cq Sb Rt);(try delta lI gD sT I64 Q1 pj8 pj4);have ao:(UInt8.toNat (List.getD len8T (Int.toNat x) 0):Int)<=255:=by have:=(List.getD len8T (Int.toNat x) 0).toNat_lt;omega
 refine⟨λc=>by simp at c;omega,λ_=>⟨λc=>by simp at c;omega,λ_=>⟨λc=>by simp at c;omega,λ_=>?_⟩⟩⟩;have hl:len8T.length=256:=by decide +kernel
 rw[hl];simp only[Q5u,Qm];refine⟨by omega,h1,by omega,by omega,by omega,?_⟩;unfold IB;rw[Int.zero_add];exact(by and_intros<;>first|rfl|trivial|simp)
def DB:AL (Int):=(.one (.k (.i .u64)))
def L4 (d:Int):Prop:=0<=d/\d<=255
def GF (d:Int):SV:=.val (.i .i64) (IB d)
def Gl (d:Int):List OB:=[]
def NP:CSp:=Y9 DB L4 GF Gl
def Kt (x:Int):Prop :=
 (false=true ->
  (InK .u32 x)/\(False)/\((IB x)=(IB x)/\(True))) /\
 (false=false ->
  (0<=x/\x<=255)/\((IB x)=(IB x)/\(True)))
def Du:Cx:=⟨[],[(109,V_),(110,VU)],8,[],0,[],[],[],[],false,[],[],[],[]⟩
def LL (x:Int):List (Nat×LoopAnn):=[]
theorem LZ (d:Int):gwp (Du) (LL d) c88 0 (Yh [.tmp 2] (GF d) (Gl d)) (Qo 8 (AL.can DB d))=Kt d:=by kernel_rfl
abbrev LX:Prop:=OkC Tryz.prog 88 NP
theorem Cc (h:∀ (x:Int),(0<=x/\x<=255)->Kt x):OkC Tryz.prog 88 NP :=
 Qu Z9n mixed (C:=Du) (V:=λ(d:Int)=>Kt d) ⟨(.cons RL (.cons R5 .nil)),XsOk.nil,ItsOk.nil,YlOk.nil,IysOk.nil,XfOk.nil⟩ (LZ) λd hp=>h d hp
theorem LM:LX:=Cc λx h=>by unfold Kt;(try delta lI gD sT I64 Q1 pj8 pj4);exact⟨(λc=>by cases c),λ_=>⟨h,(by and_intros<;>first|rfl|trivial|simp)⟩⟩
def J9:AL (Int×Int×(((Int×Int×Bool)×(Int×Int×Bool)->Prop)×((Int×Int×Bool)×(Int×Int×Bool)->Int))):=(.cons (.k (.i .i64)) (.cons (.k (.i .i64)) (.one (.fn [(.pair (.i .i64) (.pair (.i .i64) .bo)),(.pair (.i .i64) (.pair (.i .i64) .bo))] (.i .i64)))))
def WG (xs:List (Int×Int×Bool)) (nl:Bool) (d:Int×Int×(((Int×Int×Bool)×(Int×Int×Bool)->Prop)×((Int×Int×Bool)×(Int×Int×Bool)->Int))):Prop:=0<=d.1/\d.1<=d.2.1/\d.2.1<=xs.length/\xs.length<=12/\(∀ x∈xs,∀ y∈xs,d.2.2.1 (x,y))
def J1 (xs:List (Int×Int×Bool)) (nl:Bool) (d:Int×Int×(((Int×Int×Bool)×(Int×Int×Bool)->Prop)×((Int×Int×Bool)×(Int×Int×Bool)->Int))):SV:=.tup []
def ZU (xs:List (Int×Int×Bool)) (nl:Bool) (d:Int×Int×(((Int×Int×Bool)×(Int×Int×Bool)->Prop)×((Int×Int×Bool)×(Int×Int×Bool)->Int))):List (Int×Int×Bool):=(CL d.2.2.2 xs d.1.toNat d.2.1.toNat)
def QW:XSp:=Q0h (gap [] 3) (Q1a 46 (.pair (.i .i64) (.pair (.i .i64) .bo)) J9 WG J1 ZU)
def QC (xs:List (Int×Int×Bool)) (nl:Bool) (a:Int) (b:Int) (p:((Int×Int×Bool)×(Int×Int×Bool)->Prop)×((Int×Int×Bool)×(Int×Int×Bool)->Int)):Prop:=∀ vals:List Value,
 (I64 (a+(1:Int)))/\∃ (e2:Unit) (d20:(List (Int×Int×Bool))×Bool×Int),((True/\a=a/\b=b/\(SV.pf [(.pair (.i .i64) (.pair (.i .i64) .bo)),(.pair (.i .i64) (.pair (.i .i64) .bo))] (.i .i64) p.1 p.2=SV.pf [(.pair (.i .i64) (.pair (.i .i64) .bo)),(.pair (.i .i64) (.pair (.i .i64) .bo))] (.i .i64) p.1 p.2)/\(a+(1:Int))=d20.2.2/\True)/\((xs=d20.1/\nl=d20.2.1)/\(vals=vals/\(True/\(([]:List SV)=[])))/\True)) /\
 LoopP (λ(d2:(List (Int×Int×Bool))×Bool×Int) (q2:((List (Int×Int×Bool))×Bool×Int)->Prop) =>
  ((decide (d2.2.2<b))=true ->
   ∃ (e5:Bool×Int) (d50:(List (Int×Int×Bool))×Int),((True/\a=a/\b=b/\(SV.pf [(.pair (.i .i64) (.pair (.i .i64) .bo)),(.pair (.i .i64) (.pair (.i .i64) .bo))] (.i .i64) p.1 p.2=SV.pf [(.pair (.i .i64) (.pair (.i .i64) .bo)),(.pair (.i .i64) (.pair (.i .i64) .bo))] (.i .i64) p.1 p.2)/\d2.2.2=e5.2/\d2.2.2=d50.2/\True)/\((d2.1=d50.1/\d2.2.1=e5.1)/\(vals=vals/\(True/\(([]:List SV)=[])))/\True)) /\
   LoopP (λ(d5:(List (Int×Int×Bool))×Int) (q5:((List (Int×Int×Bool))×Int)->Prop) =>
    ((decide (d5.2 > a))=true->0<=d5.2)/\((decide (d5.2 > a))=true->d5.2<(List.length d5.1))/\((decide (d5.2 > a))=true->InK .i64 (d5.2-(1:Int)))/\((decide (d5.2 > a))=true->0<=(d5.2-(1:Int)))/\((decide (d5.2 > a))=true->(d5.2-(1:Int))<(List.length d5.1))/\((decide (d5.2 > a))=true->p.1 (((gD d5.1 d5.2 (0,(0,false))).1,((gD d5.1 d5.2 (0,(0,false))).2.1,(gD d5.1 d5.2 (0,(0,false))).2.2)),((gD d5.1 (d5.2-(1:Int)) (0,(0,false))).1,((gD d5.1 (d5.2-(1:Int)) (0,(0,false))).2.1,(gD d5.1 (d5.2-(1:Int)) (0,(0,false))).2.2))))/\(((decide (d5.2 > a))&&(decide ((p.2 (((gD d5.1 d5.2 (0,(0,false))).1,((gD d5.1 d5.2 (0,(0,false))).2.1,(gD d5.1 d5.2 (0,(0,false))).2.2)),((gD d5.1 (d5.2-(1:Int)) (0,(0,false))).1,((gD d5.1 (d5.2-(1:Int)) (0,(0,false))).2.1,(gD d5.1 (d5.2-(1:Int)) (0,(0,false))).2.2))))<(0:Int))))=true ->
     (I64 (d5.2-(1:Int)))/\(I64 (d5.2-(1:Int)))/\(0<=(d5.2-(1:Int)))/\((d5.2-(1:Int))<(List.length d5.1))/\(0<=d5.2)/\(d5.2<(List.length d5.1))/\(0<=d5.2)/\(d5.2<(List.length d5.1))/\(0<=(d5.2-(1:Int)))/\((d5.2-(1:Int))<(List.length (sT d5.1 d5.2 ((gD d5.1 (d5.2-(1:Int)) (0,(0,false))).1,((gD d5.1 (d5.2-(1:Int)) (0,(0,false))).2.1,(gD d5.1 (d5.2-(1:Int)) (0,(0,false))).2.2)))))/\(I64 (d5.2-(1:Int)))/\(∃ d6:(List (Int×Int×Bool))×Int,((True/\a=a/\b=b/\(SV.pf [(.pair (.i .i64) (.pair (.i .i64) .bo)),(.pair (.i .i64) (.pair (.i .i64) .bo))] (.i .i64) p.1 p.2=SV.pf [(.pair (.i .i64) (.pair (.i .i64) .bo)),(.pair (.i .i64) (.pair (.i .i64) .bo))] (.i .i64) p.1 p.2)/\e5.2=e5.2/\(d5.2-(1:Int))=d6.2/\True)/\(((sT (sT d5.1 d5.2 ((gD d5.1 (d5.2-(1:Int)) (0,(0,false))).1,((gD d5.1 (d5.2-(1:Int)) (0,(0,false))).2.1,(gD d5.1 (d5.2-(1:Int)) (0,(0,false))).2.2))) (d5.2-(1:Int)) ((gD d5.1 d5.2 (0,(0,false))).1,((gD d5.1 d5.2 (0,(0,false))).2.1,(gD d5.1 d5.2 (0,(0,false))).2.2)))=d6.1/\e5.1=e5.1)/\(vals=vals/\(True/\(([]:List SV)=[])))/\True))/\q5 d6)) /\
    (((decide (d5.2 > a))&&(decide ((p.2 (((gD d5.1 d5.2 (0,(0,false))).1,((gD d5.1 d5.2 (0,(0,false))).2.1,(gD d5.1 d5.2 (0,(0,false))).2.2)),((gD d5.1 (d5.2-(1:Int)) (0,(0,false))).1,((gD d5.1 (d5.2-(1:Int)) (0,(0,false))).2.1,(gD d5.1 (d5.2-(1:Int)) (0,(0,false))).2.2))))<(0:Int))))=false ->
     (I64 (e5.2+(1:Int)))/\(∃ d7:(List (Int×Int×Bool))×Bool×Int,((True/\a=a/\b=b/\(SV.pf [(.pair (.i .i64) (.pair (.i .i64) .bo)),(.pair (.i .i64) (.pair (.i .i64) .bo))] (.i .i64) p.1 p.2=SV.pf [(.pair (.i .i64) (.pair (.i .i64) .bo)),(.pair (.i .i64) (.pair (.i .i64) .bo))] (.i .i64) p.1 p.2)/\(e5.2+(1:Int))=d7.2.2/\True)/\((d5.1=d7.1/\e5.1=d7.2.1)/\(vals=vals/\(True/\(([]:List SV)=[])))/\True))/\q2 d7))) d50) /\
  ((decide (d2.2.2<b))=false ->
   (vals=vals/\(True/\(([]:List SV)=[]))/\((([]:List SV)=[]))/\(d2.1=(CL p.2 xs a.toNat b.toNat)/\d2.2.1=nl)))) d20
def J6:Cx:=⟨[],[],53,[],0,[],[],[],[],false,[],[],[],[]⟩
def J5 (xs:List (Int×Int×Bool)) (nl:Bool) (a:Int) (b:Int) (p:((Int×Int×Bool)×(Int×Int×Bool)->Prop)×((Int×Int×Bool)×(Int×Int×Bool)->Int)) (vals:List Value):List (Nat×LoopAnn):=[(0,⟨Unit,(List (Int×Int×Bool))×Bool×Int,[0,1,2,3,8],λe x=>[.lst 0,.val (.i .i64) a,.val (.i .i64) b,.pf [(.pair (.i .i64) (.pair (.i .i64) .bo)),(.pair (.i .i64) (.pair (.i .i64) .bo))] (.i .i64) p.1 p.2,.val (.i .i64) x.2.2],λe x=>[(0,.slot 0,.lst 46 (.pair (.i .i64) (.pair (.i .i64) .bo)) x.1 x.2.1),(4000000,.key 4000000,.stk [.lst 0] vals)]⟩),
 (2,⟨Bool×Int,(List (Int×Int×Bool))×Int,[0,1,2,3,8,9],λe x=>[.lst 0,.val (.i .i64) a,.val (.i .i64) b,.pf [(.pair (.i .i64) (.pair (.i .i64) .bo)),(.pair (.i .i64) (.pair (.i .i64) .bo))] (.i .i64) p.1 p.2,.val (.i .i64) e.2,.val (.i .i64) x.2],λe x=>[(0,.slot 0,.lst 46 (.pair (.i .i64) (.pair (.i .i64) .bo)) x.1 e.1),(4000000,.key 4000000,.stk [.lst 0] vals)]⟩)]
theorem WS (xs:List (Int×Int×Bool)) (nl:Bool) (d:Int×Int×(((Int×Int×Bool)×(Int×Int×Bool)->Prop)×((Int×Int×Bool)×(Int×Int×Bool)->Int))):(∀ vals,gwp J6 (J5 xs nl d.1 d.2.1 d.2.2 vals) J16 0 (Q2f vals [] (J1 xs nl d) (.lst 46 (.pair (.i .i64) (.pair (.i .i64) .bo)) (ZU xs nl d) nl) (.lst 0)) (Mk 53 (.lst 0) (.lst 46 (.pair (.i .i64) (.pair (.i .i64) .bo)) xs nl) vals (AL.can J9 d)))=QC xs nl d.1 d.2.1 d.2.2:=by kernel_rfl
abbrev WR:Prop:=XOk Tryz.prog 101 QW
theorem WT (h:∀ (xs:List (Int×Int×Bool)) (nl:Bool) (a:Int) (b:Int) (p:((Int×Int×Bool)×(Int×Int×Bool)->Prop)×((Int×Int×Bool)×(Int×Int×Bool)->Int)),(0<=a/\a<=b/\b<=xs.length/\xs.length<=12/\(∀ x∈xs,∀ y∈xs,p.1 (x,y)))->QC xs nl a b p):XOk Tryz.prog 101 QW :=
 HY Z3t mixed (Rp .nil 3) (C:=J6) ⟨.nil,XsOk.nil,ItsOk.nil,YlOk.nil,IysOk.nil,XfOk.nil⟩ (L:=λxs nl (d:Int×Int×(((Int×Int×Bool)×(Int×Int×Bool)->Prop)×((Int×Int×Bool)×(Int×Int×Bool)->Int))) vals=>J5 xs nl d.1 d.2.1 d.2.2 vals) (V:=λxs nl (d:Int×Int×(((Int×Int×Bool)×(Int×Int×Bool)->Prop)×((Int×Int×Bool)×(Int×Int×Bool)->Int)))=>QC xs nl d.1 d.2.1 d.2.2) WS λxs nl d hp=>h xs nl d.1 d.2.1 d.2.2 hp
theorem WM:WR:=WT λxs nl a b p h=>by
 obtain⟨h1,h2,h3,h4,h5⟩:=h;unfold QC;(try delta lI gD sT I64 Q1 pj8 pj4);intro vals;have hI:∀ e:Int,-1000<=e->e<=1000->InK .i64 e:=λe _ _=>by simp only[Qm];omega
 obtain⟨a,rfl⟩:∃ n:Nat,a=n:=⟨a.toNat,by omega⟩;obtain⟨b,rfl⟩:∃ n:Nat,b=n:=⟨b.toNat,by omega⟩;simp only[z7];refine⟨hI _ (by omega) (by omega),(),(xs,nl,(a:Int)+1),(by and_intros<;>first|rfl|trivial|simp),?_⟩;refine⟨λd=>∃ n:Nat,d.2.2=(a:Int)+1+n/\(n=0\/a+1+n<=b)/\nl=d.2.1/\d.1=Z13 (λx y=>decide (p.2 (x,y)<0)) a n xs,λd=>(1000-d.2.2).toNat,⟨0,by simp,.inl rfl,rfl,rfl⟩,?_⟩;rintro⟨ys,jY,i⟩ ⟨n,e1,e2,e3,e4⟩;dsimp only at e1 e2 e3 e4 |-;subst e1 e3;refine⟨λc=>?_,λc=>?_⟩
 .have c:a+1+n<b:=by simp at c;omega
  have hp:ys.Perm xs:=by rw[e4];exact Re _ (by omega)
  have hlen:=hp.length_eq;refine⟨(nl,(a:Int)+1+n),(ys,(a:Int)+1+n),(by and_intros<;>first|rfl|trivial|simp),?_⟩;dsimp only;refine⟨λd=>∃ j:Nat,d.2=j/\j<=a+1+n/\d.1.Perm xs/\Q3g (λx y=>decide (p.2 (x,y)<0)) a j d.1=Z13 (λx y=>decide (p.2 (x,y)<0)) a (n+1) xs,λd=>d.2.toNat,⟨a+1+n,by simp,z4 _,hp,by rw[e4];rfl⟩,?_⟩;rintro⟨zs,j'⟩ ⟨j,f1,f2,f3,f4⟩;dsimp only at f1 f3 f4 |-;subst f1;have wv:=f3.length_eq;have nD:((j:Int)-1).toNat=j-1:=by omega
  simp only[z7,nD];refine⟨λg=>by omega,λg=>by omega,λg=>hI _ (by omega) (by omega),λg=>by simp at g;omega,λg=>by omega,λg=>by rw[Qf (show j<zs.length by omega),Qf (show j-1<zs.length by omega)];exact h5 _ (f3.mem_iff.1 (zd _)) _ (f3.mem_iff.1 (zd _)),λg=>?_,λg=>?_⟩
  .have g:a<j/\p.2 (zs.getD j (0,(0,false)),zs.getD (j-1) (0,(0,false)))<0:=by simpa using g
   refine⟨hI _ (by omega) (by omega),hI _ (by omega) (by omega),by omega,by omega,by omega,by omega,by omega,by omega,by omega,by rw[xl];omega,hI _ (by omega) (by omega),((zs.set j (zs.getD (j-1) (0,(0,false)))).set (j-1) (zs.getD j (0,(0,false))),(j:Int)-1),(by and_intros<;>first|rfl|trivial|simp),⟨j-1,by omega,by omega,(Q75 (by omega) (by omega)).trans f3,Z25 f4 g.1 g.2⟩,by dsimp only;omega⟩
  .refine⟨hI _ (by omega) (by omega),(zs,nl,(a:Int)+1+n+1),(by and_intros<;>first|rfl|trivial|simp),⟨n+1,by simp;omega,by omega,rfl,Z4p f4 λhh=>?_⟩,by dsimp only;omega⟩;have h7:p.2 (zs.getD j (0,(0,false)),zs.getD (j-1) (0,(0,false)))<0:=hh.2;have h8:a<j:=hh.1;rw[zG (show (j:Int) > a by omega),zG h7] at g;cases g
 .have hn:n=b-a-1:=by simp at c;omega
  rw[e4,hn];exact(by and_intros<;>first|rfl|trivial|simp)
def JN:AL (Int×Int×Int×(((Int×Int×Bool)×(Int×Int×Bool)->Prop)×((Int×Int×Bool)×(Int×Int×Bool)->Int))):=(.cons (.k (.i .i64)) (.cons (.k (.i .i64)) (.cons (.k (.i .i64)) (.one (.fn [(.pair (.i .i64) (.pair (.i .i64) .bo)),(.pair (.i .i64) (.pair (.i .i64) .bo))] (.i .i64))))))
def YF (xs:List (Int×Int×Bool)) (nl:Bool) (d:Int×Int×Int×(((Int×Int×Bool)×(Int×Int×Bool)->Prop)×((Int×Int×Bool)×(Int×Int×Bool)->Int))):Prop:=d.1=0/\d.2.1=xs.length/\xs.length<=12/\(∀ x∈xs,∀ y∈xs,d.2.2.2.1 (x,y))
def JD (xs:List (Int×Int×Bool)) (nl:Bool) (d:Int×Int×Int×(((Int×Int×Bool)×(Int×Int×Bool)->Prop)×((Int×Int×Bool)×(Int×Int×Bool)->Int))):SV:=.tup []
def Jr (xs:List (Int×Int×Bool)) (nl:Bool) (d:Int×Int×Int×(((Int×Int×Bool)×(Int×Int×Bool)->Prop)×((Int×Int×Bool)×(Int×Int×Bool)->Int))):List (Int×Int×Bool):=(CL d.2.2.2.2 xs 0 xs.length)
def ZB:XSp:=Q0h (gap [] 3) (Q1a 46 (.pair (.i .i64) (.pair (.i .i64) .bo)) JN YF JD Jr)
def QL (xs:List (Int×Int×Bool)) (nl:Bool) (a:Int) (b:Int) (li:Int) (p:((Int×Int×Bool)×(Int×Int×Bool)->Prop)×((Int×Int×Bool)×(Int×Int×Bool)->Int)):Prop:=∀ vals:List Value,
 ∃ (e3:Unit) (d30:Unit),((True/\a=a/\b=b/\li=li/\(SV.pf [(.pair (.i .i64) (.pair (.i .i64) .bo)),(.pair (.i .i64) (.pair (.i .i64) .bo))] (.i .i64) p.1 p.2=SV.pf [(.pair (.i .i64) (.pair (.i .i64) .bo)),(.pair (.i .i64) (.pair (.i .i64) .bo))] (.i .i64) p.1 p.2)/\true=true/\true=true/\True)/\((xs=xs/\nl=nl)/\(vals=vals/\(True/\(([]:List SV)=[])))/\True)) /\
 LoopP (λ(d3:Unit) (q3:(Unit)->Prop) =>
  (I64 (b-a))/\((decide ((b-a)<=(12:Int)))=true ->
   (0<=a/\a<=b/\b<=xs.length/\xs.length<=12/\(∀ x∈xs,∀ y∈xs,(λ(x1:(Int×Int×Bool)×(Int×Int×Bool))=>p.1 ((x1.1.1,(x1.1.2.1,x1.1.2.2)),(x1.2.1,(x1.2.2.1,x1.2.2.2)))) (x,y)))/\(vals=vals/\(True/\(([]:List SV)=[]))/\((([]:List SV)=[]))/\((CL (λ(x1:(Int×Int×Bool)×(Int×Int×Bool))=>(p.2 ((x1.1.1,(x1.1.2.1,x1.1.2.2)),(x1.2.1,(x1.2.2.1,x1.2.2.2))))) xs a.toNat b.toNat)=(CL p.2 xs 0 xs.length)/\nl=nl))) /\
  ((decide ((b-a)<=(12:Int)))=false ->
   ((li==(0:Int))=true ->
    False) /\
   ((li==(0:Int))=false ->
    ((!true)=true ->
     False) /\
    ((!true)=false ->
     False)))) d30
def JL:Cx:=⟨[],[],148,[],0,[(101,QW),(102,Q9b),(103,Q9b),(104,Q9b)],[],[],[],false,[],[],[],[]⟩
def JR (xs:List (Int×Int×Bool)) (nl:Bool) (a:Int) (b:Int) (li:Int) (p:((Int×Int×Bool)×(Int×Int×Bool)->Prop)×((Int×Int×Bool)×(Int×Int×Bool)->Int)) (vals:List Value):List (Nat×LoopAnn):=[(0,⟨Unit,Unit,[0,1,2,3,4,10,11],λe x=>[.lst 0,.val (.i .i64) a,.val (.i .i64) b,.val (.i .i64) li,.pf [(.pair (.i .i64) (.pair (.i .i64) .bo)),(.pair (.i .i64) (.pair (.i .i64) .bo))] (.i .i64) p.1 p.2,.val .bo true,.val .bo true],λe x=>[(0,.slot 0,.lst 46 (.pair (.i .i64) (.pair (.i .i64) .bo)) xs nl),(4000000,.key 4000000,.stk [.lst 0] vals)]⟩)]
theorem YZ (xs:List (Int×Int×Bool)) (nl:Bool) (d:Int×Int×Int×(((Int×Int×Bool)×(Int×Int×Bool)->Prop)×((Int×Int×Bool)×(Int×Int×Bool)->Int))):(∀ vals,gwp JL (JR xs nl d.1 d.2.1 d.2.2.1 d.2.2.2 vals) c87 0 (Q2f vals [] (JD xs nl d) (.lst 46 (.pair (.i .i64) (.pair (.i .i64) .bo)) (Jr xs nl d) nl) (.lst 0)) (Mk 148 (.lst 0) (.lst 46 (.pair (.i .i64) (.pair (.i .i64) .bo)) xs nl) vals (AL.can JN d)))=QL xs nl d.1 d.2.1 d.2.2.1 d.2.2.2:=by kernel_rfl
abbrev YX:Prop:=XOk Tryz.prog 87 ZB
theorem K5 (h:∀ (xs:List (Int×Int×Bool)) (nl:Bool) (a:Int) (b:Int) (li:Int) (p:((Int×Int×Bool)×(Int×Int×Bool)->Prop)×((Int×Int×Bool)×(Int×Int×Bool)->Int)),(a=0/\b=xs.length/\xs.length<=12/\(∀ x∈xs,∀ y∈xs,p.1 (x,y)))->QL xs nl a b li p):XOk Tryz.prog 87 ZB :=
 HY Z6c mixed (Rp .nil 3) (C:=JL) ⟨.nil,(XsOk.cons WM (XsOk.cons Cy (XsOk.cons Cy (XsOk.cons Cy XsOk.nil)))),ItsOk.nil,YlOk.nil,IysOk.nil,XfOk.nil⟩ (L:=λxs nl (d:Int×Int×Int×(((Int×Int×Bool)×(Int×Int×Bool)->Prop)×((Int×Int×Bool)×(Int×Int×Bool)->Int))) vals=>JR xs nl d.1 d.2.1 d.2.2.1 d.2.2.2 vals) (V:=λxs nl (d:Int×Int×Int×(((Int×Int×Bool)×(Int×Int×Bool)->Prop)×((Int×Int×Bool)×(Int×Int×Bool)->Int)))=>QL xs nl d.1 d.2.1 d.2.2.1 d.2.2.2) YZ λxs nl d hp=>h xs nl d.1 d.2.1 d.2.2.1 d.2.2.2 hp
theorem YB:YX:=K5 λxs nl a b li p h=>by
 obtain⟨rfl,rfl,h2,h3⟩:=h;unfold QL;(try delta lI gD sT I64 Q1 pj8 pj4);intro vals;refine⟨(),(),(by and_intros<;>first|rfl|trivial|simp),?_⟩;refine⟨λ_=>True,λ_=>0,trivial,?_⟩;rintro⟨⟩ -
 refine⟨by simp only[Qm];omega,λ_=>⟨⟨by omega,by omega,by omega,h2,h3⟩,(by and_intros<;>first|rfl|trivial|simp)⟩,λc=>by simp at c;omega⟩
def ZT:AL (((Int×Int×Bool)×(Int×Int×Bool)->Prop)×((Int×Int×Bool)×(Int×Int×Bool)->Int)):=(.one (.fn [(.pair (.i .i64) (.pair (.i .i64) .bo)),(.pair (.i .i64) (.pair (.i .i64) .bo))] (.i .i64)))
def Wg (xs:List (Int×Int×Bool)) (nl:Bool) (d:((Int×Int×Bool)×(Int×Int×Bool)->Prop)×((Int×Int×Bool)×(Int×Int×Bool)->Int)):Prop:=xs.length<=12/\(∀ x∈xs,∀ y∈xs,d.1 (x,y))
def ZN (xs:List (Int×Int×Bool)) (nl:Bool) (d:((Int×Int×Bool)×(Int×Int×Bool)->Prop)×((Int×Int×Bool)×(Int×Int×Bool)->Int)):SV:=.tup []
def ZD (xs:List (Int×Int×Bool)) (nl:Bool) (d:((Int×Int×Bool)×(Int×Int×Bool)->Prop)×((Int×Int×Bool)×(Int×Int×Bool)->Int)):List (Int×Int×Bool):=(CL d.2 xs 0 xs.length)
def QR:XSp:=Q0h (gap [(31,U3)] 3) (Q1a 46 (.pair (.i .i64) (.pair (.i .i64) .bo)) ZT Wg ZN ZD)
def Qw (xs:List (Int×Int×Bool)) (nl:Bool) (p:((Int×Int×Bool)×(Int×Int×Bool)->Prop)×((Int×Int×Bool)×(Int×Int×Bool)->Int)):Prop:=∀ vals:List Value,
 (InK .u64 (lI xs))/\(0<=(lI xs)/\(lI xs)<=255)/\((0:Int)=0/\(lI xs)=xs.length/\xs.length<=12/\(∀ x∈xs,∀ y∈xs,(λ(x1:(Int×Int×Bool)×(Int×Int×Bool))=>p.1 ((x1.1.1,(x1.1.2.1,x1.1.2.2)),(x1.2.1,(x1.2.2.1,x1.2.2.2)))) (x,y)))/\(vals=vals/\(True/\(([]:List SV)=[]))/\((([]:List SV)=[]))/\((CL (λ(x1:(Int×Int×Bool)×(Int×Int×Bool))=>(p.2 ((x1.1.1,(x1.1.2.1,x1.1.2.2)),(x1.2.1,(x1.2.2.1,x1.2.2.2))))) xs 0 xs.length)=(CL p.2 xs 0 xs.length)/\nl=nl))
def Z_:Cx:=⟨[],[(88,NP)],14,[],0,[(87,ZB)],[],[],[],false,[],[],[],[]⟩
def ZW (xs:List (Int×Int×Bool)) (nl:Bool) (p:((Int×Int×Bool)×(Int×Int×Bool)->Prop)×((Int×Int×Bool)×(Int×Int×Bool)->Int)) (vals:List Value):List (Nat×LoopAnn):=[]
theorem WA (xs:List (Int×Int×Bool)) (nl:Bool) (d:((Int×Int×Bool)×(Int×Int×Bool)->Prop)×((Int×Int×Bool)×(Int×Int×Bool)->Int)):(∀ vals,gwp Z_ (ZW xs nl d vals) c57 0 (Q2f vals [] (ZN xs nl d) (.lst 46 (.pair (.i .i64) (.pair (.i .i64) .bo)) (ZD xs nl d) nl) (.lst 0)) (Mk 14 (.lst 0) (.lst 46 (.pair (.i .i64) (.pair (.i .i64) .bo)) xs nl) vals (AL.can ZT d)))=Qw xs nl d:=by kernel_rfl
abbrev Ww:Prop:=XOk Tryz.prog 57 QR
theorem WC (h:∀ (xs:List (Int×Int×Bool)) (nl:Bool) (p:((Int×Int×Bool)×(Int×Int×Bool)->Prop)×((Int×Int×Bool)×(Int×Int×Bool)->Int)),(xs.length<=12/\(∀ x∈xs,∀ y∈xs,p.1 (x,y)))->Qw xs nl p):XOk Tryz.prog 57 QR :=
 HY Z8e mixed (Rp (.cons HH .nil) 3) (C:=Z_) ⟨(.cons LM .nil),(XsOk.cons YB XsOk.nil),ItsOk.nil,YlOk.nil,IysOk.nil,XfOk.nil⟩ (L:=λxs nl (d:((Int×Int×Bool)×(Int×Int×Bool)->Prop)×((Int×Int×Bool)×(Int×Int×Bool)->Int)) vals=>ZW xs nl d vals) (V:=λxs nl (d:((Int×Int×Bool)×(Int×Int×Bool)->Prop)×((Int×Int×Bool)×(Int×Int×Bool)->Int))=>Qw xs nl d) WA λxs nl d hp=>h xs nl d hp
theorem Wk:Ww:=WC λxs nl p h=>by unfold Qw;(try delta lI gD sT I64 Q1 pj8 pj4);intro vals;have:=h.1;refine⟨by simp only[EI];omega,⟨by omega,by omega⟩,⟨rfl,rfl,h.1,h.2⟩,?_⟩;exact(by and_intros<;>first|rfl|trivial|simp)
def Et (l:List Int) (i:Int):Int:=if l.length=0 then 0 else l.getD (Int.tmod i l.length).toNat 0
theorem Z1w {l:List Int}{i:Int}(h:∀ x∈l,0<=x/\x<=255) (hi:0<=i):0<=Et l i/\Et l i<=255:=by
 unfold Et;split
 .omega
 .rename_i hz;have e:=Int.tmod_eq_emod_of_nonneg (b:=(l.length:Int)) hi;have g1:=Int.emod_nonneg i (show (l.length:Int)≠0 by omega);have g2:=Int.emod_lt_of_pos i (show (0:Int)<l.length by omega);have g3:(Int.tmod i l.length).toNat<l.length:=by omega
  rw[Qf g3];exact h _ (zd g3)
theorem Q3y {l:List Int}(h:l.Pairwise (·<·)):∀ (m i:Nat) (hj:i+m<l.length),l[i]+(m:Int)<=l[i+m]
 |0,i,hj=>by simp
 |m+1,i,hj=>by have h1:=Q3y h m i (by omega);have h2:=List.pairwise_iff_getElem.1 h (i+m) (i+(m+1)) (by omega) hj (by omega);omega
theorem Z5l {l:List Int}(h:l.Pairwise (·<·)) (hb:∀ x∈l,0<=x/\x<l.length) {i:Nat}(hi:i<l.length):l[i]=(i:Int):=by
 have h1:=Q3y h i 0 (by omega);have h2:=Q3y h (l.length-1-i) i (by omega);have h3:=hb _ (zd (show 0<l.length by omega));have h4:=hb _ (zd (show i+(l.length-1-i)<l.length by omega));simp only[zY] at h1;omega
theorem Z2b {rows:List Int}{s:List UK}(hl:s.length=rows.length) (hs:(s.map (·.1)).Pairwise (·<·)) (hb:∀ c∈s,0<=c.1/\c.1<rows.length/\c.2.1=rows.getD c.1.toNat 0):(s.map λc=>((c.1,(c.2.1,false)):UK))=Hq rows:=by
 refine List.ext_getElem (by simp[Hq,hl]) λi h1 h2=>?_;have hi:i<s.length:=by simpa using h1
 have h3:=Z5l hs (λx hx=>by
  obtain⟨c,hc,rfl⟩:=zC.1 hx;have:=hb c hc;simp only[xB,hl];omega) (i:=i) (by simpa using hi)
 simp only[xP] at h3;obtain⟨-,-,h4⟩:=hb _ (zd hi);simp only[xP,Hq,List.getElem_range,h3,h4,z7]
theorem Q7r {α:Type}{l:List α}{i k:Nat}{d:α}(hi:i<l.length) (hk:k<l.length):((l.set i (l.getD k d)).set k (l.getD i d)).Perm l:=by
 rw[Qf hi,Qf hk];by_cases h:i=k
 .subst h;simp
 .exact List.set_set_perm hi hk
def Q8l (p:UK×UK):Int:=Q4t p.1.1 p.2.1
def Q8u (cs:List UK):List UK:=(CL Q8l cs 0 cs.length).map λc=>((c.1,(c.2.1,false)):UK)
theorem Q4u {x y:UK}:Q8l (x,y)<0<->x.1<y.1:=by unfold Q8l Q4t;dsimp only;split<;>(try split)<;>omega
theorem Q8r {rows:List Int}{cs:List UK}(hl:cs.length=rows.length) (hn:(cs.map (·.1)).Nodup) (hb:∀ c∈cs,0<=c.1/\c.1<rows.length/\c.2.1=rows.getD c.1.toNat 0):Q8u cs=Hq rows:=by
 have hp:=CZ (f:=Q8l) (a:=0) (z4 cs.length);have hs:=Z0y (f:=Q8l) (λx y h h2=>by rw[Q4u] at h h2;omega) (λx y z h1 h2 h3=>by rw[Q4u] at h1 h2 h3;omega) cs;refine Z2b (hp.length_eq.trans hl) ?_ λc hc=>hb c (hp.mem_iff.1 hc);have dJ:=(hp.map (·.1)).nodup_iff.2 hn;have bG:((CL Q8l cs 0 cs.length).map (·.1)).Pairwise (·<=·):=List.pairwise_map.2 (hs.imp λh=>by rw[Q4u] at h;omega);exact(bG.and dJ).imp λh=>by have:=h.1;have:=h.2;omega
theorem VW (a:Int) (b:Bool) (m:List (Int×Bool)) (e:Int) (d:Bool):gq.aget (.i .i64) ((a,b)::m) e d=if e=a then b else gq.aget (.i .i64) m e d:=by show (if (e==a)=true then b else gq.aget (.i .i64) m e d)=_;simp only[zH]
theorem SL (a:Int) (b:Bool) (m:List (Int×Bool)) (k:Int) (v:Bool):Q0w (.i .i64) ((a,b)::m) k v=if k=a then (k,v)::m else (a,b)::Q0w (.i .i64) m k v:=by show (if (k==a)=true then (k,v)::m else (a,b)::Q0w (.i .i64) m k v)=_;simp only[zH]
def WE (hk:Int) (cs:List UK):Int:=if Wf hk cs≠0 then Wf hk cs else if (-1:Int)∈cs.map (·.1) then 9 else if (cs.map (·.1)).Nodup then 0 else 6
def Gb (hk:Int) (cs:List UK):List UK:=if WE hk cs=0 then Q8u cs else []
def Sk (hk:Int) (cs:List UK):Int:=if WE hk cs=0 then hk else 0
theorem RP:∀ {m:List (Int×Bool)}{k:Int},(∀ p∈m,p.2=true)->gq.aget (.i .i64) m k false=true->(Q0w (.i .i64) m k true).length=m.length/\∀ p∈Q0w (.i .i64) m k true,p.2=true
 |[],k,_,h=>by cases h
 |(a,b)::m,k,ht,h=>by
  rw[VW] at h;rw[SL];by_cases e:k=a
  .rw[z2 e];exact⟨rfl,λp hp=>by
    rcases zB.1 hp with rfl|hp
    .rfl
    .exact ht p (xk _ hp)⟩
  .rw[z0 e] at h |-;obtain⟨h1,h2⟩:=RP (m:=m) (k:=k) (λp hp=>ht p (xk _ hp)) h;refine⟨by rw[zr,zr,h1],λp hp=>?_⟩;rcases zB.1 hp with rfl|hp
   .exact ht _ (z_ ..)
   .exact h2 p hp
theorem GM:∀ {m:List (Int×Bool)}{k:Int},(∀ p∈m,p.2=true)->gq.aget (.i .i64) m k false=false->(Q0w (.i .i64) m k true).length=m.length+1/\∀ p∈Q0w (.i .i64) m k true,p.2=true
 |[],k,_,h=>⟨rfl,λp hp=>by
   have hp:p∈[(k,true)]:=hp;rw[zx.1 hp]⟩
 |(a,b)::m,k,ht,h=>by
  rw[VW] at h;rw[SL];by_cases e:k=a
  .rw[z2 e] at h;have:=ht (a,b) (z_ ..);rw[h] at this;cases this
  .rw[z0 e] at h |-;obtain⟨h1,h2⟩:=GM (m:=m) (k:=k) (λp hp=>ht p (xk _ hp)) h;refine⟨by rw[zr,zr,h1],λp hp=>?_⟩;rcases zB.1 hp with rfl|hp
   .exact ht _ (z_ ..)
   .exact h2 p hp
theorem Q10 (k:Int) (v:Bool):∀ (m:List (Int×Bool)) (e:Int),gq.aget (.i .i64) (Q0w (.i .i64) m k v) e false=if e=k then v else gq.aget (.i .i64) m e false
 |[],e=>by have:Q0w (.i .i64) ([]:List (Int×Bool)) k v=[(k,v)]:=rfl;rw[this,VW]
 |(a,b)::m,e=>by
  rw[SL];by_cases h:k=a
  .subst h;rw[z2 rfl,VW,VW];split<;>rfl
  .rw[z0 h,VW,VW,Q10 k v m e];by_cases h2:e=a
   .rw[z2 h2,z2 h2,z0 (λh3=>h (h3.symm.trans h2))]
   .rw[z0 h2,z0 h2]
structure SeenI (l:List Int) (m:List (Int×Bool)) (k:Nat):Prop where
 get:∀ x,gq.aget (.i .i64) m x false=decide (x∈l.take k)
 tr:∀ p∈m,p.2=true
 le:m.length<=k
 nd:m.length=k<->(l.take k).Nodup
theorem SeenI.nil (l:List Int):SeenI l [] 0:=⟨λx=>by simp[gq.aget],(λp hp=>by cases hp),z4 _,by simp⟩
theorem SeenI.put {l:List Int}{m:List (Int×Bool)}{k:Nat}(h:SeenI l m k) (hk:k<l.length):SeenI l (Q0w (.i .i64) m (l.getD k 0) true) (k+1):=by
 have et:l.take (k+1)=l.take k++[l.getD k 0]:=by rw[QO hk,Qf hk]
 have hle:=h.le;refine⟨λx=>?_,?_,?_,?_⟩
 .rw[Q10,et];by_cases e:x=l.getD k 0
  .rw[z2 e,zG];rw[e];exact xU _ (zx.2 rfl)
  .rw[z0 e,h.get];refine decide_eq_decide.2 ⟨λhx=>w4 _ hx,λhx=>?_⟩;rcases xh.1 hx with hx|hx
   .exact hx
   .exact(e (zx.1 hx)).elim
 .cases c:gq.aget (.i .i64) m (l.getD k 0) false with
  |true=>exact(RP h.tr c).2
  |false=>exact(GM h.tr c).2
 .cases c:gq.aget (.i .i64) m (l.getD k 0) false with
  |true=>rw[(RP h.tr c).1];omega
  |false=>rw[(GM h.tr c).1];omega
 .rw[et,List.nodup_append];have c1:=h.get (l.getD k 0);cases c:gq.aget (.i .i64) m (l.getD k 0) false with
  |true =>rw[c] at c1;rw[(RP h.tr c).1];refine⟨λe=>by omega,λe=>?_⟩;exact(e.2.2 _ (zA c1.symm) _ (zx.2 rfl) rfl).elim
  |false =>
   rw[c] at c1;rw[(GM h.tr c).1];have c2:=zt c1.symm;refine⟨λe=>⟨h.nd.1 (by omega),by simp,λa ha b hb e2=>?_⟩,λe=>?_⟩
   .rw[zx.1 hb] at e2;rw[e2] at ha;exact c2 ha
   .have:=h.nd.2 e.1;omega
theorem SeenI.full {l:List Int}{m:List (Int×Bool)}(h:SeenI l m l.length):gq.aget (.i .i64) m (-1) false=decide ((-1:Int)∈l)/\(decide ((m.length:Int)<(l.length:Int))=decide (¬ l.Nodup)):=by have h1:=h.get (-1);have h2:=h.nd;have h3:=h.le;rw[List.take_length] at h1 h2;refine⟨h1,decide_eq_decide.2 ?_⟩;rw[<-h2];omega
def RF:AL (Int×List (Int×Int×Bool)):=(.one (.agg (.cons (.k (.i .i64)) (.one (.k (.list (.pair (.i .i64) (.pair (.i .i64) .bo))))))))
def F_ (d:Int×List (Int×Int×Bool)):Prop:=d.2.length<=1000/\(WE d.1 d.2=0->d.2.length<=12)
def T0 (d:Int×List (Int×Int×Bool)):SV:=.tup [.agg [.val (.i .i64) (Sk d.1 d.2),.lst 0],.val (.i .i64) (WE d.1 d.2)]
def PX (d:Int×List (Int×Int×Bool)):List OB:=[.lst 46 (.pair (.i .i64) (.pair (.i .i64) .bo)) (Gb d.1 d.2) ((Gb d.1 d.2).isEmpty)]
def BR:CSp:=Y9 RF F_ T0 PX
abbrev Nf :=(((([]:List SV)=[]))/\(True/\(([]:List SV)=[])))
abbrev Oo :=(Nf/\(((([]:List SV)=[]))/\((([]:List SV)=[])))/\True/\True/\True/\True/\Nf/\True/\True/\True/\True/\True/\(([]:List SV)=[]))
abbrev P0 (hk:Int) (cs:List (Int×Int×Bool)):=(((Gb hk cs)=[]/\(Gb hk cs).isEmpty=true)/\True)
abbrev HT (hk:Int) (cs:List (Int×Int×Bool)):=((0:Int)=(Sk hk cs)/\True/\(([]:List SV)=[]))
abbrev Q0u :=(True/\Nf/\True/\True/\True/\True/\Nf/\True/\True/\True/\True/\True/\True/\(([]:List SV)=[]))
abbrev O2 :=(λ(x1:(Int×Int×Bool)×(Int×Int×Bool))=>(Q4t x1.1.1 x1.2.1))
abbrev Oa :=(λ(x2:(Int×Int×Bool)×(Int×Int×Bool))=>(Q4t x2.1.1 x2.2.1))
abbrev Oe :=(Nf/\True/\True/\Nf/\True/\(([]:List SV)=[]))
def N8 (hk:Int) (cs:List (Int×Int×Bool)):Prop :=
 ∀ w1:List Value,∀ w2:List Value,(True)/\((!(inI hk 1 24))=true ->
  w2=w2/\w1=w1/\(((HT hk cs)/\(3:Int)=(WE hk cs)/\(([]:List SV)=[]))/\(P0 hk cs))) /\
 ((!(inI hk 1 24))=false ->
  (((decide ((lI cs) > (60:Int)))=true ->
   w2=w2/\w1=w1/\(((HT hk cs)/\(5:Int)=(WE hk cs)/\(([]:List SV)=[]))/\(P0 hk cs))) /\
  ((decide ((lI cs) > (60:Int)))=false ->
   (1<=hk/\hk<=24/\cs.length<=1000000)/\((!(!cs.isEmpty&&!(cs.any λc=>!Yl hk c)))=true ->
    w2=w2/\w1=w1/\(((HT hk cs)/\(2:Int)=(WE hk cs)/\(([]:List SV)=[]))/\(P0 hk cs))) /\
   ((!(!cs.isEmpty&&!(cs.any λc=>!Yl hk c)))=false ->
    w2=w2/\∃ (e5:Int×(List (Int×Int×Bool))×Int×Int×Int×(List (Int×Int×Bool))×Int×(List (Int×Int×Bool))×Int×Int×(List (Int×Int×Bool))×Int×(List (Int×Int×Bool))×Int×Int×Int×(List (Int×Int×Bool))×(List Value)) (d50:(List (Int×Bool))×Int),((True/\True/\True/\True/\cs=(q4 e5).2.2.2.1/\(lI cs)=(q4 (q4 e5)).1/\(0:Int)=d50.2/\True)/\((hk=e5.1/\cs=e5.2.1/\(([]:List SV)=[]))/\((0:Int)=e5.2.2.1/\True/\(0:Int)=e5.2.2.2.1/\(([]:List SV)=[]))/\(hk=(q4 e5).1/\cs=(q4 e5).2.1/\hk=(q4 e5).2.2.1/\(([]:List SV)=[]))/\(([]:List (Int×Bool))=d50.1)/\((q4 (q4 (q4 (q4 e5)))).2=w1/\((hk=(q4 (q4 e5)).2.1/\cs=(q4 (q4 e5)).2.2.1/\(([]:List SV)=[]))/\True/\True/\(0:Int)=(q4 (q4 (q4 e5))).2.2.1/\True/\True/\True/\True/\(hk=(q4 (q4 (q4 e5))).2.2.2.1/\cs=(q4 (q4 (q4 (q4 e5)))).1/\(([]:List SV)=[]))/\True/\True/\True/\True/\True/\True/\True/\True/\True/\True/\True/\True/\True/\True/\True/\True/\True/\True/\True/\True/\True/\True/\True/\True/\True/\(([]:List SV)=[])))/\(hk=(q4 (q4 e5)).2.2.2.1/\cs=(q4 (q4 (q4 e5))).1/\(([]:List SV)=[]))/\((0:Int)=(q4 (q4 (q4 e5))).2.1/\True/\(([]:List SV)=[]))/\True)) /\
    LoopP (λ(d5:(List (Int×Bool))×Int) (q5:((List (Int×Bool))×Int)->Prop) =>
     ((decide (d5.2<(q4 (q4 e5)).1))=true ->
      (0<=d5.2)/\(d5.2<(List.length (q4 e5).2.2.2.1))/\(I64 (d5.2+(1:Int)))/\(∃ d6:(List (Int×Bool))×Int,((True/\True/\True/\True/\(q4 e5).2.2.2.1=(q4 e5).2.2.2.1/\(q4 (q4 e5)).1=(q4 (q4 e5)).1/\(d5.2+(1:Int))=d6.2/\True)/\((e5.1=e5.1/\e5.2.1=e5.2.1/\(([]:List SV)=[]))/\(e5.2.2.1=e5.2.2.1/\True/\e5.2.2.2.1=e5.2.2.2.1/\(([]:List SV)=[]))/\((q4 e5).1=(q4 e5).1/\(q4 e5).2.1=(q4 e5).2.1/\(q4 e5).2.2.1=(q4 e5).2.2.1/\(([]:List SV)=[]))/\((Q0w (.i .i64) d5.1 (gD (q4 e5).2.2.2.1 d5.2 (0,(0,false))).1 true)=d6.1)/\((q4 (q4 (q4 (q4 e5)))).2=(q4 (q4 (q4 (q4 e5)))).2/\(((q4 (q4 e5)).2.1=(q4 (q4 e5)).2.1/\(q4 (q4 e5)).2.2.1=(q4 (q4 e5)).2.2.1/\(([]:List SV)=[]))/\True/\True/\(q4 (q4 (q4 e5))).2.2.1=(q4 (q4 (q4 e5))).2.2.1/\True/\True/\True/\True/\((q4 (q4 (q4 e5))).2.2.2.1=(q4 (q4 (q4 e5))).2.2.2.1/\(q4 (q4 (q4 (q4 e5)))).1=(q4 (q4 (q4 (q4 e5)))).1/\(([]:List SV)=[]))/\True/\True/\True/\True/\True/\True/\True/\True/\True/\True/\True/\True/\True/\True/\True/\True/\True/\True/\True/\True/\True/\True/\True/\True/\True/\(([]:List SV)=[])))/\((q4 (q4 e5)).2.2.2.1=(q4 (q4 e5)).2.2.2.1/\(q4 (q4 (q4 e5))).1=(q4 (q4 (q4 e5))).1/\(([]:List SV)=[]))/\((q4 (q4 (q4 e5))).2.1=(q4 (q4 (q4 e5))).2.1/\True/\(([]:List SV)=[]))/\True))/\q5 d6)) /\
     ((decide (d5.2<(q4 (q4 e5)).1))=false ->
      ((gq.aget (.i .i64) d5.1 (-1:Int) false)=true ->
       (q4 (q4 (q4 (q4 e5)))).2=w1/\(((HT hk cs)/\(9:Int)=(WE hk cs)/\(([]:List SV)=[]))/\(P0 hk cs))) /\
      ((gq.aget (.i .i64) d5.1 (-1:Int) false)=false ->
       ((decide ((lI d5.1)<(lI e5.2.1)))=true ->
        (q4 (q4 (q4 (q4 e5)))).2=w1/\(((HT hk cs)/\(6:Int)=(WE hk cs)/\(([]:List SV)=[]))/\(P0 hk cs))) /\
       ((decide ((lI d5.1)<(lI e5.2.1)))=false ->
        (q4 (q4 (q4 (q4 e5)))).2=w1/\∀ w7:List Value,w7=w7/\∀ w8:List Value,∀ w9:List Value,∀ oL:List Value,∀ lK:LpD,∃ (az:(List (Int×Int×Bool))×Int×Int×(List (Int×Int×Bool))×Int×(List (Int×Int×Bool))×Int×Int×Int×(List (Int×Int×Bool))×Int×Int×Int×(List (Int×Int×Bool))×Int×Int×Int×(List (Int×Int×Bool))×Int×(List (Int×Int×Bool))×Int×Int×Int×(List (Int×Int×Bool))×Int×Int×Int×(List (Int×Int×Bool))×(List (Int×Int×Bool))×(List Value)×(List Value)×(List Value)×LpD) (ec:Int×(List (Int×Int×Bool))),((True/\(q4 (q4 (q4 e5))).1=az.1/\(lI (q4 (q4 (q4 e5))).1)=az.2.1/\(0:Int)=ec.1/\True)/\(((q4 (q4 (q4 (q4 (q4 (q4 (q4 az))))))).2.1=w8/\(((q4 (q4 e5)).2.1=az.2.2.1/\(q4 (q4 e5)).2.2.1=az.2.2.2.1/\(([]:List SV)=[]))/\True/\True/\(q4 (q4 (q4 e5))).2.2.1=(q4 az).2.2.2.1/\True/\(0:Int)=(q4 (q4 az)).2.2.2.1/\True/\(((q4 e5).1=(q4 (q4 (q4 az))).1/\(q4 e5).2.1=(q4 (q4 (q4 az))).2.1/\(q4 e5).2.2.1=(q4 (q4 (q4 az))).2.2.1/\(([]:List SV)=[]))/\(0:Int)=(q4 (q4 (q4 az))).2.2.2.1/\(([]:List SV)=[]))/\((q4 (q4 (q4 e5))).2.2.2.1=(q4 (q4 (q4 (q4 az)))).1/\(q4 (q4 (q4 (q4 e5)))).1=(q4 (q4 (q4 (q4 az)))).2.1/\(([]:List SV)=[]))/\(((q4 e5).1=(q4 (q4 (q4 (q4 az)))).2.2.1/\(q4 e5).2.1=(q4 (q4 (q4 (q4 az)))).2.2.2.1/\(q4 e5).2.2.1=(q4 (q4 (q4 (q4 (q4 az))))).1/\(([]:List SV)=[]))/\(0:Int)=(q4 (q4 (q4 (q4 (q4 az))))).2.1/\(([]:List SV)=[]))/\((q4 e5).1=(q4 (q4 (q4 (q4 (q4 az))))).2.2.1/\(q4 e5).2.1=(q4 (q4 (q4 (q4 (q4 az))))).2.2.2.1/\(q4 e5).2.2.1=(q4 (q4 (q4 (q4 (q4 (q4 az)))))).1/\(([]:List SV)=[]))/\(0:Int)=(q4 (q4 (q4 (q4 (q4 (q4 az)))))).2.1/\(0:Int)=(q4 (q4 (q4 (q4 (q4 (q4 az)))))).2.2.1/\True/\True/\True/\True/\(q4 (q4 (q4 e5))).1=(q4 (q4 (q4 (q4 (q4 (q4 az)))))).2.2.2.1/\Nf/\True/\True/\True/\True/\True/\True/\True/\True/\True/\True/\True/\True/\True/\True/\True/\(([]:List SV)=[])))/\((q4 (q4 e5)).2.2.2.1=(q4 az).1/\(q4 (q4 (q4 e5))).1=(q4 az).2.1/\(([]:List SV)=[]))/\((q4 (q4 (q4 e5))).2.1=(q4 az).2.2.1/\True/\(([]:List SV)=[]))/\((q4 e5).1=(q4 (q4 az)).1/\(q4 e5).2.1=(q4 (q4 az)).2.1/\(q4 e5).2.2.1=(q4 (q4 az)).2.2.1/\(([]:List SV)=[]))/\((q4 (q4 (q4 e5))).1=(q4 (q4 (q4 (q4 (q4 (q4 (q4 az))))))).1/\(([]:List SV)=[]))/\((q4 (q4 (q4 (q4 (q4 (q4 (q4 az))))))).2.2.1=w9/\Oo)/\((q4 (q4 (q4 (q4 (q4 (q4 (q4 az))))))).2.2.2.1=oL/\Oe)/\((q4 (q4 (q4 (q4 (q4 (q4 (q4 (q4 az))))))))=lK/\Q0u)/\(True/\(([]:List SV)=[]))/\(ec.2=[]/\(List.isEmpty ec.2)=true)/\True)) /\
        LoopP (λ(d15:Int×(List (Int×Int×Bool))) (rE:(Int×(List (Int×Int×Bool)))->Prop) =>
         ((decide (d15.1<az.2.1))=true ->
          (0<=d15.1)/\(d15.1<(List.length az.1))/\(q4 (q4 (q4 (q4 (q4 (q4 (q4 (q4 az))))))))=lK/\∀ sW:List Value,(((List.length d15.2)+(List.length [((gD az.1 d15.1 (0,(0,false))).1,((gD az.1 d15.1 (0,(0,false))).2.1,(gD az.1 d15.1 (0,(0,false))).2.2))]))*24<=70368744177664)/\sW=sW/\(q4 (q4 (q4 (q4 (q4 (q4 (q4 (q4 az))))))))=lK/\((!true)=true ->
           (q4 (q4 (q4 (q4 (q4 (q4 (q4 (q4 az))))))))=lK/\(q4 (q4 (q4 (q4 (q4 (q4 (q4 az))))))).2.2.2.1=oL/\(q4 (q4 (q4 (q4 (q4 (q4 (q4 az))))))).2.2.1=w9/\((d15.2++[((gD az.1 d15.1 (0,(0,false))).1,((gD az.1 d15.1 (0,(0,false))).2.1,(gD az.1 d15.1 (0,(0,false))).2.2))]).length<=12/\(∀ x∈(d15.2++[((gD az.1 d15.1 (0,(0,false))).1,((gD az.1 d15.1 (0,(0,false))).2.1,(gD az.1 d15.1 (0,(0,false))).2.2))]),∀ y∈(d15.2++[((gD az.1 d15.1 (0,(0,false))).1,((gD az.1 d15.1 (0,(0,false))).2.1,(gD az.1 d15.1 (0,(0,false))).2.2))]),(λ(x1:(Int×Int×Bool)×(Int×Int×Bool))=>True) (x,y)))/\(q4 (q4 (q4 (q4 (q4 (q4 (q4 az))))))).2.1=w8/\∃ (af:Int) (cj:(List (Int×Int×Bool))×Int),((True/\True/\(lI (CL O2 (d15.2++[((gD az.1 d15.1 (0,(0,false))).1,((gD az.1 d15.1 (0,(0,false))).2.1,(gD az.1 d15.1 (0,(0,false))).2.2))]) 0 (d15.2++[((gD az.1 d15.1 (0,(0,false))).1,((gD az.1 d15.1 (0,(0,false))).2.1,(gD az.1 d15.1 (0,(0,false))).2.2))]).length))=af/\(0:Int)=cj.2/\True)/\(((q4 az).1=hk/\True/\(([]:List SV)=[]))/\((CL O2 (d15.2++[((gD az.1 d15.1 (0,(0,false))).1,((gD az.1 d15.1 (0,(0,false))).2.1,(gD az.1 d15.1 (0,(0,false))).2.2))]) 0 (d15.2++[((gD az.1 d15.1 (0,(0,false))).1,((gD az.1 d15.1 (0,(0,false))).2.1,(gD az.1 d15.1 (0,(0,false))).2.2))]).length)=cj.1/\false=(List.isEmpty cj.1))/\((q4 az).2.2.1=(0:Int)/\True/\(([]:List SV)=[]))/\True)) /\
           LoopP (λ(d17:(List (Int×Int×Bool))×Int) (lG:((List (Int×Int×Bool))×Int)->Prop) =>
            ((decide (d17.2<af))=true ->
             (0<=d17.2)/\(d17.2<(List.length d17.1))/\(I64 (d17.2+(1:Int)))/\(∃ d18:(List (Int×Int×Bool))×Int,((True/\True/\af=af/\(d17.2+(1:Int))=d18.2/\True)/\((hk=hk/\True/\(([]:List SV)=[]))/\((sT d17.1 d17.2 ((gD d17.1 d17.2 (0,(0,false))).1,((gD d17.1 d17.2 (0,(0,false))).2.1,false)))=d18.1/\(List.isEmpty d17.1)=(List.isEmpty d18.1))/\((0:Int)=(0:Int)/\True/\(([]:List SV)=[]))/\True))/\lG d18)) /\
            ((decide (d17.2<af))=false ->
             (((hk=(Sk hk cs)/\True/\(([]:List SV)=[]))/\(0:Int)=(WE hk cs)/\(([]:List SV)=[]))/\((d17.1=(Gb hk cs)/\(List.isEmpty d17.1)=(Gb hk cs).isEmpty)/\True)))) cj) /\
          ((!true)=false ->
           (I64 (d15.1+(1:Int)))/\(∃ d19:Int×(List (Int×Int×Bool)),((True/\az.1=az.1/\az.2.1=az.2.1/\(d15.1+(1:Int))=d19.1/\True)/\(((q4 (q4 (q4 (q4 (q4 (q4 (q4 az))))))).2.1=(q4 (q4 (q4 (q4 (q4 (q4 (q4 az))))))).2.1/\((az.2.2.1=az.2.2.1/\az.2.2.2.1=az.2.2.2.1/\(([]:List SV)=[]))/\True/\True/\(q4 az).2.2.2.1=(q4 az).2.2.2.1/\True/\(q4 (q4 az)).2.2.2.1=(q4 (q4 az)).2.2.2.1/\True/\(((q4 (q4 (q4 az))).1=(q4 (q4 (q4 az))).1/\(q4 (q4 (q4 az))).2.1=(q4 (q4 (q4 az))).2.1/\(q4 (q4 (q4 az))).2.2.1=(q4 (q4 (q4 az))).2.2.1/\(([]:List SV)=[]))/\(q4 (q4 (q4 az))).2.2.2.1=(q4 (q4 (q4 az))).2.2.2.1/\(([]:List SV)=[]))/\((q4 (q4 (q4 (q4 az)))).1=(q4 (q4 (q4 (q4 az)))).1/\(q4 (q4 (q4 (q4 az)))).2.1=(q4 (q4 (q4 (q4 az)))).2.1/\(([]:List SV)=[]))/\(((q4 (q4 (q4 (q4 az)))).2.2.1=(q4 (q4 (q4 (q4 az)))).2.2.1/\(q4 (q4 (q4 (q4 az)))).2.2.2.1=(q4 (q4 (q4 (q4 az)))).2.2.2.1/\(q4 (q4 (q4 (q4 (q4 az))))).1=(q4 (q4 (q4 (q4 (q4 az))))).1/\(([]:List SV)=[]))/\(q4 (q4 (q4 (q4 (q4 az))))).2.1=(q4 (q4 (q4 (q4 (q4 az))))).2.1/\(([]:List SV)=[]))/\((q4 (q4 (q4 (q4 (q4 az))))).2.2.1=(q4 (q4 (q4 (q4 (q4 az))))).2.2.1/\(q4 (q4 (q4 (q4 (q4 az))))).2.2.2.1=(q4 (q4 (q4 (q4 (q4 az))))).2.2.2.1/\(q4 (q4 (q4 (q4 (q4 (q4 az)))))).1=(q4 (q4 (q4 (q4 (q4 (q4 az)))))).1/\(([]:List SV)=[]))/\(q4 (q4 (q4 (q4 (q4 (q4 az)))))).2.1=(q4 (q4 (q4 (q4 (q4 (q4 az)))))).2.1/\(q4 (q4 (q4 (q4 (q4 (q4 az)))))).2.2.1=(q4 (q4 (q4 (q4 (q4 (q4 az)))))).2.2.1/\True/\True/\True/\True/\(q4 (q4 (q4 (q4 (q4 (q4 az)))))).2.2.2.1=(q4 (q4 (q4 (q4 (q4 (q4 az)))))).2.2.2.1/\Nf/\True/\True/\True/\True/\True/\True/\True/\True/\True/\True/\True/\True/\True/\True/\True/\(([]:List SV)=[])))/\((q4 az).1=(q4 az).1/\(q4 az).2.1=(q4 az).2.1/\(([]:List SV)=[]))/\((q4 az).2.2.1=(q4 az).2.2.1/\True/\(([]:List SV)=[]))/\((q4 (q4 az)).1=(q4 (q4 az)).1/\(q4 (q4 az)).2.1=(q4 (q4 az)).2.1/\(q4 (q4 az)).2.2.1=(q4 (q4 az)).2.2.1/\(([]:List SV)=[]))/\((q4 (q4 (q4 (q4 (q4 (q4 (q4 az))))))).1=(q4 (q4 (q4 (q4 (q4 (q4 (q4 az))))))).1/\(([]:List SV)=[]))/\((q4 (q4 (q4 (q4 (q4 (q4 (q4 az))))))).2.2.1=(q4 (q4 (q4 (q4 (q4 (q4 (q4 az))))))).2.2.1/\Oo)/\((q4 (q4 (q4 (q4 (q4 (q4 (q4 az))))))).2.2.2.1=(q4 (q4 (q4 (q4 (q4 (q4 (q4 az))))))).2.2.2.1/\Oe)/\((q4 (q4 (q4 (q4 (q4 (q4 (q4 (q4 az))))))))=(q4 (q4 (q4 (q4 (q4 (q4 (q4 (q4 az))))))))/\Q0u)/\(True/\(([]:List SV)=[]))/\((d15.2++[((gD az.1 d15.1 (0,(0,false))).1,((gD az.1 d15.1 (0,(0,false))).2.1,(gD az.1 d15.1 (0,(0,false))).2.2))])=d19.2/\false=(List.isEmpty d19.2))/\True))/\rE d19))) /\
         ((decide (d15.1<az.2.1))=false ->
          (q4 (q4 (q4 (q4 (q4 (q4 (q4 (q4 az))))))))=lK/\(q4 (q4 (q4 (q4 (q4 (q4 (q4 az))))))).2.2.2.1=oL/\(q4 (q4 (q4 (q4 (q4 (q4 (q4 az))))))).2.2.1=w9/\(d15.2.length<=12/\(∀ x∈d15.2,∀ y∈d15.2,(λ(x2:(Int×Int×Bool)×(Int×Int×Bool))=>True) (x,y)))/\(q4 (q4 (q4 (q4 (q4 (q4 (q4 az))))))).2.1=w8/\∃ (aO:Int) (eU:(List (Int×Int×Bool))×Int),((True/\True/\(lI (CL Oa d15.2 0 d15.2.length))=aO/\(0:Int)=eU.2/\True)/\(((q4 az).1=hk/\True/\(([]:List SV)=[]))/\((CL Oa d15.2 0 d15.2.length)=eU.1/\(List.isEmpty d15.2)=(List.isEmpty eU.1))/\((q4 az).2.2.1=(0:Int)/\True/\(([]:List SV)=[]))/\True)) /\
          LoopP (λ(d22:(List (Int×Int×Bool))×Int) (rB:((List (Int×Int×Bool))×Int)->Prop) =>
           ((decide (d22.2<aO))=true ->
            (0<=d22.2)/\(d22.2<(List.length d22.1))/\(I64 (d22.2+(1:Int)))/\(∃ d23:(List (Int×Int×Bool))×Int,((True/\True/\aO=aO/\(d22.2+(1:Int))=d23.2/\True)/\((hk=hk/\True/\(([]:List SV)=[]))/\((sT d22.1 d22.2 ((gD d22.1 d22.2 (0,(0,false))).1,((gD d22.1 d22.2 (0,(0,false))).2.1,false)))=d23.1/\(List.isEmpty d22.1)=(List.isEmpty d23.1))/\((0:Int)=(0:Int)/\True/\(([]:List SV)=[]))/\True))/\rB d23)) /\
           ((decide (d22.2<aO))=false ->
            (((hk=(Sk hk cs)/\True/\(([]:List SV)=[]))/\(0:Int)=(WE hk cs)/\(([]:List SV)=[]))/\((d22.1=(Gb hk cs)/\(List.isEmpty d22.1)=(Gb hk cs).isEmpty)/\True)))) eU)) ec)))) d50))))
def Yr:Cx:=⟨[(1000018,(.pair (.i .i64) .bo))],[(19,J3),(69,Jf)],43,[3000015],0,[(43,BX)],[],[],[],false,[],[],[15],[]⟩
def Yo:List (Nat×LoopAnn):=[(0,⟨Int×(List (Int×Int×Bool))×Int×Int×Int×(List (Int×Int×Bool))×Int×(List (Int×Int×Bool))×Int×Int×(List (Int×Int×Bool))×Int×(List (Int×Int×Bool))×Int×Int×Int×(List (Int×Int×Bool))×(List Value),(List (Int×Bool))×Int,[1,2,4,6,20,21,22],λe x=>[.box 1000001 0,.box 1000002 0,.box 1000004 0,.map 1000018,.val (.list (.pair (.i .i64) (.pair (.i .i64) .bo))) e.2.2.2.2.2.2.2.1,.val (.i .i64) e.2.2.2.2.2.2.2.2.1,.val (.i .i64) x.2],λe x=>[(1000001,.slot 1,.cells [.val (.i .i64) e.1,.val (.list (.pair (.i .i64) (.pair (.i .i64) .bo))) e.2.1] (some 36)),(1000002,.slot 2,.cells [.val (.i .i64) e.2.2.1,.nilS,.val (.i .i64) e.2.2.2.1] (some 79)),(1000004,.slot 4,.cells [.val (.i .i64) e.2.2.2.2.1,.val (.list (.pair (.i .i64) (.pair (.i .i64) .bo))) e.2.2.2.2.2.1,.val (.i .i64) e.2.2.2.2.2.2.1] (some 79)),(1000018,.slot 6,.map (.i .i64) .bo x.1),(999999,.key 999999,.stk [.agg [.val (.i .i64) e.2.2.2.2.2.2.2.2.2.1,.val (.list (.pair (.i .i64) (.pair (.i .i64) .bo))) e.2.2.2.2.2.2.2.2.2.2.1],.box 1 0,.box 2 0,.val (.i .i64) e.2.2.2.2.2.2.2.2.2.2.2.2.2.2.1,.any,.any,.any,.any,.agg [.val (.i .i64) e.2.2.2.2.2.2.2.2.2.2.2.2.2.2.2.1,.val (.list (.pair (.i .i64) (.pair (.i .i64) .bo))) e.2.2.2.2.2.2.2.2.2.2.2.2.2.2.2.2.1],.any,.any,.any,.any,.any,.any,.any,.any,.any,.any,.any,.any,.any,.any,.any,.any,.any,.any,.any,.any,.any,.any,.any,.any,.any] e.2.2.2.2.2.2.2.2.2.2.2.2.2.2.2.2.2),(1,.key 1,.cells [.val (.i .i64) e.2.2.2.2.2.2.2.2.2.2.2.1,.val (.list (.pair (.i .i64) (.pair (.i .i64) .bo))) e.2.2.2.2.2.2.2.2.2.2.2.2.1] (some 36)),(2,.key 2,.cells [.val (.i .i64) e.2.2.2.2.2.2.2.2.2.2.2.2.2.1,.nilS] (some 36))]⟩)]
def Z2:Cx:=⟨[],[],4,[],0,[],[],[],[],false,[],[],[],[]⟩
def Z3:List (Nat×LoopAnn):=[]
def Q2:Cx:=⟨[],[],16,[],0,[],[],[],[],false,[],[],[],[]⟩
def Q3:List (Nat×LoopAnn):=[(0,⟨(List (Int×Int×Bool))×Int×Int×(List (Int×Int×Bool))×Int×(List (Int×Int×Bool))×Int×Int×Int×(List (Int×Int×Bool))×Int×Int×Int×(List (Int×Int×Bool))×Int×Int×Int×(List (Int×Int×Bool))×Int×(List (Int×Int×Bool))×Int×Int×Int×(List (Int×Int×Bool))×Int×Int×Int×(List (Int×Int×Bool))×(List (Int×Int×Bool))×(List Value)×(List Value)×(List Value)×LpD,Int×(List (Int×Int×Bool)),[0,5,6,7],λe x=>[.dd 20000080002500000 .yv,.val (.list (.pair (.i .i64) (.pair (.i .i64) .bo))) e.1,.val (.i .i64) e.2.1,.val (.i .i64) x.1],λe x=>[(1999999,.key 1999999,.stk [.agg [.val (.i .i64) e.2.2.1,.val (.list (.pair (.i .i64) (.pair (.i .i64) .bo))) e.2.2.2.1],.box 1 0,.box 2 0,.val (.i .i64) e.2.2.2.2.2.2.2.1,.box 4 0,.val (.i .i64) e.2.2.2.2.2.2.2.2.2.2.2.1,.any,.tup [.agg [.val (.i .i64) e.2.2.2.2.2.2.2.2.2.2.2.2.1,.val (.list (.pair (.i .i64) (.pair (.i .i64) .bo))) e.2.2.2.2.2.2.2.2.2.2.2.2.2.1,.val (.i .i64) e.2.2.2.2.2.2.2.2.2.2.2.2.2.2.1],.val (.i .i64) e.2.2.2.2.2.2.2.2.2.2.2.2.2.2.2.1],.agg [.val (.i .i64) e.2.2.2.2.2.2.2.2.2.2.2.2.2.2.2.2.1,.val (.list (.pair (.i .i64) (.pair (.i .i64) .bo))) e.2.2.2.2.2.2.2.2.2.2.2.2.2.2.2.2.2.1],.tup [.agg [.val (.i .i64) e.2.2.2.2.2.2.2.2.2.2.2.2.2.2.2.2.2.2.1,.val (.list (.pair (.i .i64) (.pair (.i .i64) .bo))) e.2.2.2.2.2.2.2.2.2.2.2.2.2.2.2.2.2.2.2.1,.val (.i .i64) e.2.2.2.2.2.2.2.2.2.2.2.2.2.2.2.2.2.2.2.2.1],.val (.i .i64) e.2.2.2.2.2.2.2.2.2.2.2.2.2.2.2.2.2.2.2.2.2.1],.agg [.val (.i .i64) e.2.2.2.2.2.2.2.2.2.2.2.2.2.2.2.2.2.2.2.2.2.2.1,.val (.list (.pair (.i .i64) (.pair (.i .i64) .bo))) e.2.2.2.2.2.2.2.2.2.2.2.2.2.2.2.2.2.2.2.2.2.2.2.1,.val (.i .i64) e.2.2.2.2.2.2.2.2.2.2.2.2.2.2.2.2.2.2.2.2.2.2.2.2.1],.val (.i .i64) e.2.2.2.2.2.2.2.2.2.2.2.2.2.2.2.2.2.2.2.2.2.2.2.2.2.1,.val (.i .i64) e.2.2.2.2.2.2.2.2.2.2.2.2.2.2.2.2.2.2.2.2.2.2.2.2.2.2.1,.any,.any,.any,.box 1 1,.val (.list (.pair (.i .i64) (.pair (.i .i64) .bo))) e.2.2.2.2.2.2.2.2.2.2.2.2.2.2.2.2.2.2.2.2.2.2.2.2.2.2.2.1,.fn 58 [] [.box 1900001 0],.any,.any,.any,.any,.any,.any,.any,.any,.any,.any,.any,.any,.any,.any,.any] e.2.2.2.2.2.2.2.2.2.2.2.2.2.2.2.2.2.2.2.2.2.2.2.2.2.2.2.2.2.1),(1,.key 1,.cells [.val (.i .i64) e.2.2.2.2.1,.val (.list (.pair (.i .i64) (.pair (.i .i64) .bo))) e.2.2.2.2.2.1] (some 36)),(2,.key 2,.cells [.val (.i .i64) e.2.2.2.2.2.2.1,.nilS] (some 36)),(4,.key 4,.cells [.val (.i .i64) e.2.2.2.2.2.2.2.2.1,.val (.list (.pair (.i .i64) (.pair (.i .i64) .bo))) e.2.2.2.2.2.2.2.2.2.1,.val (.i .i64) e.2.2.2.2.2.2.2.2.2.2.1] (some 79)),(1900001,.key 1900001,.cells [.val (.list (.pair (.i .i64) (.pair (.i .i64) .bo))) e.2.2.2.2.2.2.2.2.2.2.2.2.2.2.2.2.2.2.2.2.2.2.2.2.2.2.2.2.1] (some 34)),(200000799999,.key 200000799999,.stk [.fn 58 [] [.box 1900001 0],.fn 31 [] [],.any,.any,.nilS,.any,.fn 58 [] [.box 1900001 0],.any,.any,.any,.any,.any] e.2.2.2.2.2.2.2.2.2.2.2.2.2.2.2.2.2.2.2.2.2.2.2.2.2.2.2.2.2.2.1),(20000080000499999,.key 20000080000499999,.stk [.fn 58 [] [.box 1900001 0],.any,.nilS,.fn 58 [] [.box 1900001 0],.any] e.2.2.2.2.2.2.2.2.2.2.2.2.2.2.2.2.2.2.2.2.2.2.2.2.2.2.2.2.2.2.2.1),(20000080002500000,.key 20000080002500000,.lpf [.nilS,.fn 58 [] [.box 1900001 0],.box 20000080000500002 0,.any,.nilS,.any,.fn 58 [] [.box 1900001 0],.any,.any,.any,.any,.any,.any] e.2.2.2.2.2.2.2.2.2.2.2.2.2.2.2.2.2.2.2.2.2.2.2.2.2.2.2.2.2.2.2.2 .rdy),(20000080000500002,.key 20000080000500002,.cells [.lst 20000080000500011] (some 34)),(20000080000500011,.cell 20000080000500002 0,.lst 46 (.pair (.i .i64) (.pair (.i .i64) .bo)) x.2 (List.isEmpty x.2))]⟩)]
def Q9:Cx:=⟨[(46,(.pair (.i .i64) (.pair (.i .i64) .bo)))],[],13,[],0,[],[],[],[],false,[],[(58,J0e Q2 Q3 c58 16)],[],[]⟩
def Q8:List (Nat×LoopAnn):=[]
def QA:Cx:=⟨[],[],5,[],0,[(86,EW Q9 (λ_=>Q8) c86 [.tmp 4] 13)],[],[],[],false,[],[],[],[]⟩
def Qz:List (Nat×LoopAnn):=[]
def J4:Cx:=⟨[],[(31,U3)],12,[],0,[(56,EW QA (λ_=>Qz) c56 [.tmp 2] 5),(57,QR)],[],[],[],false,[],[],[],[]⟩
def J0:List (Nat×LoopAnn):=[]
def TX:Cx:=⟨[],[],34,[3000013],0,[(28,EW Yr (λ_=>Yo) c28 [.cell 2 true 3,.tmp 3] 43),(30,EW Z2 (λ_=>Z3) c30 [.tmp 2] 4),(29,EW J4 (λ_=>J0) c29 [.tmp 4] 12)],[],[],[],false,[],[],[13],[]⟩
def Q0c (hk:Int) (cs:List (Int×Int×Bool)):List (Nat×LoopAnn):=[(0,⟨Int,(List (Int×Int×Bool))×Int,[1,2,23,24],λe x=>[.box 1 0,.box 2 0,.val (.i .i64) e,.val (.i .i64) x.2],λe x=>[(1,.slot 1,.cells [.val (.i .i64) hk,.lst 20000080000500011] (some 36)),(20000080000500011,.cell 1 1,.lst 46 (.pair (.i .i64) (.pair (.i .i64) .bo)) x.1 (List.isEmpty x.1)),(2,.slot 2,.cells [.val (.i .i64) (0:Int),.nilS] (some 36))]⟩)]
theorem Q04 (d:Int×List (Int×Int×Bool)):gwp (TX) (Q0c d.1 d.2) c11 0 (Yh [.cell 2 true 2,.tmp 3] (T0 d) (PX d)) (Qo 34 (AL.can RF d))=N8 d.1 d.2:=by kernel_rfl
abbrev O3:Prop:=OkC Tryz.prog 11 BR
theorem Oi (h:∀ (hk:Int) (cs:List (Int×Int×Bool)),(cs.length<=1000/\(WE hk cs=0->cs.length<=12))->N8 hk cs):OkC Tryz.prog 11 BR :=
 Qu Z8d mixed (C:=TX) (V:=λ(d:Int×List (Int×Int×Bool))=>N8 d.1 d.2) ⟨.nil,(XsOk.cons (Wc Z6d mixed (C:=Yr) ⟨(.cons XK (.cons Y4 .nil)),(XsOk.cons PY XsOk.nil),ItsOk.nil,YlOk.nil,IysOk.nil,XfOk.nil⟩ (λ_=>Yo)) (XsOk.cons (Wc Z6s mixed (C:=Z2) ⟨.nil,XsOk.nil,ItsOk.nil,YlOk.nil,IysOk.nil,XfOk.nil⟩ (λ_=>Z3)) (XsOk.cons (Wc Z98 mixed (C:=J4) ⟨(.cons HH .nil),(XsOk.cons (Wc Z7l mixed (C:=QA) ⟨.nil,(XsOk.cons (Wc Z9w mixed (C:=Q9) ⟨.nil,XsOk.nil,ItsOk.nil,YlOk.nil,(IysOk.cons (Q4i Z9g mixed (C:=Q2) ⟨.nil,XsOk.nil,ItsOk.nil,YlOk.nil,IysOk.nil,XfOk.nil⟩ Q3) IysOk.nil),XfOk.nil⟩ (λ_=>Q8)) XsOk.nil),ItsOk.nil,YlOk.nil,IysOk.nil,XfOk.nil⟩ (λ_=>Qz)) (XsOk.cons Wk XsOk.nil)),ItsOk.nil,YlOk.nil,IysOk.nil,XfOk.nil⟩ (λ_=>J0)) XsOk.nil))),ItsOk.nil,YlOk.nil,IysOk.nil,XfOk.nil⟩ (Q04) λd hp=>h d.1 d.2 hp
set_option maxHeartbeats 2000000 in
theorem Q0e:O3:=Oi λhk cs h=>by
 obtain⟨h,lb⟩:=h;have iL:∀ e:Int,WE hk cs=e->e≠0->0=Sk hk cs/\(e=WE hk cs)/\Gb hk cs=[]/\(Gb hk cs).isEmpty=true:=λe h1 h2=>by
  have:Gb hk cs=[]:=by unfold Gb;rw[z0 (by omega)]
  exact⟨by unfold Sk;rw[z0 (by omega)],h1.symm,this,by rw[this];rfl⟩
 have bN:∀ e:Int,Wf hk cs=e->e≠0->WE hk cs=e:=λe h1 h2=>by unfold WE;rw[z2 (by omega)];exact h1
 unfold N8
 (try delta Nf Oo P0 HT Q0u O2 Oa Oe q4)
 (try delta lI gD sT I64 Q1 pj8 pj4)
 intro w1 w2;repeat (first|refine⟨trivial,?_⟩|refine⟨rfl,?_⟩)
 refine⟨λc1=>?_,λc1=>?_⟩
 .have e:Wf hk cs=3:=by unfold Wf;rw[z2 c1]
  obtain⟨t,u,v,w⟩:=iL 3 (bN 3 e (by decide)) (by decide);and_intros<;>first|rfl|trivial|assumption
 repeat (first|refine⟨trivial,?_⟩|refine⟨rfl,?_⟩)
 refine⟨λc2=>?_,λc2=>?_⟩
 .have c2:60<cs.length:=by have:=zA c2;omega
  have e:Wf hk cs=5:=by unfold Wf;rw[z0 (by rw[c1];decide),z2 c2]
  obtain⟨t,u,v,w⟩:=iL 5 (bN 5 e (by decide)) (by decide);and_intros<;>first|rfl|trivial|assumption
 have c2:cs.length<=60:=by have:=zt c2;omega
 obtain⟨i1,i2⟩:=IW c1;repeat (first|refine⟨trivial,?_⟩|refine⟨rfl,?_⟩)
 refine⟨⟨i1,i2,by omega⟩,λc3=>?_,λc3=>?_⟩
 .obtain⟨t,u,v,w⟩:=iL 2 (bN 2 (Q66 c1 c2 c3) (by decide)) (by decide);and_intros<;>first|rfl|trivial|assumption
 obtain⟨be,b3,au⟩:=Q2c c1 c2 c3;repeat (first|refine⟨trivial,?_⟩|refine⟨rfl,?_⟩)
 refine⟨(hk,cs,0,0,hk,cs,hk,cs,(cs.length:Int),hk,cs,hk,cs,0,0,hk,cs,w1),([],0),by and_intros<;>first|rfl|trivial,?_⟩;refine⟨λd=>∃ k:Nat,k<=cs.length/\d.2=(k:Int)/\SeenI (cs.map (·.1)) d.1 k,λd=>cs.length-d.2.toNat,⟨0,by omega,rfl,SeenI.nil _⟩,?_⟩;rintro⟨mm,_⟩ ⟨k,bz,rfl,hS⟩;dsimp only at hS |-;refine⟨λc=>?_,λc=>?_⟩
 .have ao:k<cs.length:=by have:=zA c;omega
  have hp:=hS.put (by simpa using ao);have eg:(cs.map (·.1)).getD k 0=(cs.getD k (0,(0,false))).1:=by
   rw[Qf (by simpa using ao),Qf ao,xP]
  rw[eg] at hp;simp only[z7];exact⟨by omega,by omega,by rw[Qm];omega,(Q0w (.i .i64) mm (cs.getD k (0,(0,false))).1 true,(k:Int)+1),by and_intros<;>first|rfl|trivial,⟨k+1,ao,rfl,hp⟩,by dsimp only;omega⟩
 .have aB:k=cs.length:=by have:=zt c;omega
  subst aB;have hl:(cs.map (·.1)).length=cs.length:=xB ..;rw[<-hl] at hS;obtain⟨f1,f2⟩:=hS.full;rw[hl] at f2;refine⟨λc4=>?_,λc4=>?_⟩
  .rw[f1] at c4;have e:WE hk cs=9:=by unfold WE;rw[z0 (by omega),z2 (zA c4)]
   obtain⟨t,u,v,w⟩:=iL 9 e (by decide);and_intros<;>first|rfl|trivial|assumption
  rw[f1] at c4;have c4:=zt c4;refine⟨λc5=>?_,λc5=>?_⟩
  .rw[f2] at c5;have e:WE hk cs=6:=by unfold WE;rw[z0 (by omega),z0 c4,z0 (zA c5)]
   obtain⟨t,u,v,w⟩:=iL 6 e (by decide);and_intros<;>first|rfl|trivial|assumption
  rw[f2] at c5;have ib:(cs.map (·.1)).Nodup:=Decidable.not_not.1 (zt c5);have en:WE hk cs=0:=by unfold WE;rw[z0 (by omega),z0 c4,z2 ib]
  have em:Gb hk cs=Q8u cs:=by unfold Gb;rw[z2 en]
  have eh:Sk hk cs=hk:=by unfold Sk;rw[z2 en]
  have lb:=lb en;rw[en,em,eh];clear hS f1 f2;repeat (first|refine⟨trivial,?_⟩|refine⟨rfl,?_⟩)
  intro w7;repeat (first|refine⟨trivial,?_⟩|refine⟨rfl,?_⟩)
  intro w8 w9 oL lK;refine⟨(cs,(cs.length:Int),hk,cs,hk,cs,0,0,hk,cs,hk,0,hk,cs,hk,0,hk,cs,hk,cs,hk,0,hk,cs,hk,0,0,cs,cs,w8,w9,oL,lK),(0,[]),by and_intros<;>first|rfl|trivial,?_⟩;refine⟨λd=>∃ k:Nat,k<=cs.length/\d=((k:Int),cs.take k),λd=>cs.length-d.1.toNat,⟨0,by omega,rfl⟩,?_⟩;rintro _ ⟨k,bz,rfl⟩;refine⟨λc=>?_,λc=>?_⟩
  .have ao:k<cs.length:=by have:=zA c;dsimp only at this;omega
   refine⟨by show (0:Int)<=(k:Int);omega,by show (k:Int)<(cs.length:Int);omega,rfl,?_⟩;intro vw;refine⟨by show ((cs.take k).length+1)*24<=70368744177664;rw[xI];omega,?_⟩;repeat (first|refine⟨rfl,?_⟩|refine⟨trivial,?_⟩)
   refine⟨(λc=>by simp at c),λ_=>?_⟩;refine⟨by rw[Qm];show _<=(k:Int)+1/\(k:Int)+1<=_;omega,((k:Int)+1,cs.take (k+1)),?_,⟨k+1,ao,rfl⟩,by show cs.length-((k:Int)+1).toNat<cs.length-(k:Int).toNat;omega⟩;have e2:cs.take (k+1)=cs.take k++[cs.getD k (0,(0,false))]:=by rw[QO ao,Qf ao]
   rw[e2];and_intros<;>first|rfl|trivial|simp
  .have aB:k=cs.length:=by have:=zt c;dsimp only at this;omega
   subst aB;rw[List.take_length];have hp:=CZ (f:=Q8l) (a:=0) (z4 cs.length);have fy:=hp.length_eq;have gJ:Q8u cs=(CL Q8l cs 0 cs.length).map λc=>((c.1,(c.2.1,false)):UK):=rfl;repeat (first|refine⟨rfl,?_⟩|refine⟨trivial,?_⟩)
   refine⟨⟨lb,λ_ _ _ _=>trivial⟩,?_⟩;repeat (first|refine⟨rfl,?_⟩|refine⟨trivial,?_⟩)
   have aJ:cs.isEmpty=false:=by cases cs with
    |nil=>exact(b3 rfl).elim
    |cons _ _=>rfl
   have oM:(CL Q8l cs 0 cs.length).isEmpty=false:=by rw[<-aJ];exact Bool.eq_iff_iff.2 (by rw[List.isEmpty_iff,List.isEmpty_iff,<-x3,<-x3,fy])
   refine⟨((CL Q8l cs 0 cs.length).length:Int),(CL Q8l cs 0 cs.length,0),by and_intros<;>first|rfl|trivial|exact aJ.trans oM.symm,?_⟩;generalize hS:CL Q8l cs 0 cs.length=S at *
   refine⟨λd=>∃ k:Nat,k<=S.length/\d=((S.take k).map (λc=>((c.1,(c.2.1,false)):UK))++S.drop k,(k:Int)),λd=>S.length-d.2.toNat,⟨0,by omega,by simp⟩,?_⟩;rintro _ ⟨k,bz,rfl⟩;have sX:((S.take k).map (λc=>((c.1,(c.2.1,false)):UK))++S.drop k).length=S.length:=by simp;omega
   refine⟨λc=>?_,λc=>?_⟩
   .have ao:k<S.length:=by have:=zA c;dsimp only at this;omega
    have vz:((S.take k).map (λc=>((c.1,(c.2.1,false)):UK))++S.drop k).getD k (0,(0,false))=S[k]:=by rw[Qf (by omega),List.getElem_append_right (by simp;omega)];simp[xD (Nat.le_of_lt ao)]
    have bn:((S.take k).map (λc=>((c.1,(c.2.1,false)):UK))++S.drop k).set k (S[k].1,(S[k].2.1,false))=(S.take (k+1)).map (λc=>((c.1,(c.2.1,false)):UK))++S.drop (k+1):=by rw[xX _ _ (by simp;omega),QO ao,xi,zJ,xK ao];simp[xD (Nat.le_of_lt ao)];rw[xK ao,List.set_cons_zero]
    generalize hL:(S.take k).map (λc=>((c.1,(c.2.1,false)):UK))++S.drop k=L at *
    generalize vA:(S.take (k+1)).map (λc=>((c.1,(c.2.1,false)):UK))++S.drop (k+1)=L' at *
    have e1:L.set k ((L.getD k (0,(0,false))).1,((L.getD k (0,(0,false))).2.1,false))=L':=by rw[vz];exact bn
    have l1:L'.length=S.length:=by rw[<-bn,xl];exact sX
    have e2:L.isEmpty=L'.isEmpty:=Bool.eq_iff_iff.2 (by rw[List.isEmpty_iff,List.isEmpty_iff,<-x3,<-x3,sX,l1]);exact⟨by show (0:Int)<=(k:Int);omega,by show (k:Int)<(L.length:Int);omega,by rw[Qm];show _<=(k:Int)+1/\(k:Int)+1<=_;omega,(L',(k:Int)+1),by and_intros<;>first|rfl|trivial|exact e1|exact e2,⟨k+1,ao,by rw[vA];rfl⟩,by show S.length-((k:Int)+1).toNat<S.length-(k:Int).toNat;omega⟩
   .have aB:k=S.length:=by have:=zt c;dsimp only at this;omega
    subst aB;rw[List.take_length,List.drop_length,xt,<-gJ];have mh:(Q8u cs).isEmpty=false:=by rw[gJ,List.isEmpty_map];exact oM
    and_intros<;>first|rfl|trivial|exact mh
end Go.Proofs.Tryz
namespace Go.V
open Go
theorem Z1n {P:Program}{U:Heap}:Ret P U (.val .bo true) [] (.bool true) U :=
 ⟨⟨.refl _,Dead.refl _⟩,λ_=>rfl,KR,λj b hj=>by simp at hj,λj j' i hj=>by simp at hj,by simp[SR,KC]⟩
theorem Q6a {P:Program}{f:Nat}(h:∀ (U:Heap) (K:Value->Heap->Prop),K (.bool true) U->VCalled P f [] U K):OkC P f (Y9 (.nil:AL Unit) (λ_=>True) (λ_=>.val .bo true) (λ_=>[])):=by
 intro ap eI U args vs c v bs aD hs hv b6 hc;unfold Y9 at hs;split at hs
 .rename_i d hd;obtain⟨rfl,rfl,rfl⟩:=(by simpa using hs:True=c/\SV.val .bo true=v/\[]=bs);have:vs=[]:=by
   cases args with
   |nil=>simpa [SRs] using aD
   |cons a l=>simp[AL.dec] at hd
  subst this;refine⟨h U _ Z1n,λ_ _=>h U _ ⟨rfl,?_⟩⟩;unfold Fy;cases U;simp only[List.length_nil,zR,List.getElem?_nil,Option.bind_none,Heap.mk.injEq,and_true];funext i;split
  .rfl
  .rename_i wf hi;exact wf i (by simpa using hi)
 .cases hs
end Go.V
namespace Go.V
open Go Go.ChangeShapes Go.WideShapes Go.RowKit Go.Deep Go.Joins
def Heap.RO (U:Heap):Prop:=∀ i b,U.get i=some b->b.wr=false
structure View (w:World) (ρ:Plc) (U:Heap):Prop where
 rel:HRel ρ U w
 ro:U.RO
structure More (ρ:Plc) (U:Heap) (ρ':Plc) (U':Heap):Prop where
 n:U.n<=U'.n
 pl:∀ i,i<U.n->∀ p,ρ' i=some p->ρ i=some p
 ag:Agree U U'
theorem More.refl (ρ:Plc) (U:Heap):More ρ U ρ U:=⟨z4 _,λ_ _ _ h=>h,Agree.refl _⟩
theorem More.trans {ρ ρ' eJ:Plc}{U U' aN:Heap}(h:More ρ U ρ' U') (k:More ρ' U' eJ aN):More ρ U eJ aN :=
 ⟨zO h.n k.n,λi hi p hp=>h.pl i hi p (k.pl i (zT hi h.n) p hp),h.ag.trans k.ag h.n⟩
def J1v (w:World):Prop:=∀ g cs,Z2j g=some cs->∃ e f,w.heap[g]?=some (.cells cs.toArray e f)
theorem View.emptyT (w:World) (ht:J1v w):View w (λ_=>none) Heap.empty where
 rel:=⟨⟨λi b h=>(by cases h),λ_ _=>rfl,λi p h=>(by cases h),λi j p q b _ h=>(by cases h)⟩,λg cs hg=>⟨ht g cs hg,λ⟨_,_,_,h,_⟩=>by cases h⟩⟩
 ro:=λi b h=>by cases h
theorem View.add {w:World}{ρ:Plc}{U:Heap}(h:View w ρ U) (p:Pl) (c:List Value) {C:Array Value}{e:TypeId}{f:Nat×Nat}(hb:w.heap[p.blk]?=some (.cells C e f)) (hs:p.shift+p.ext<=C.size) (hl:c.length<=p.ext) (ht:e=p.esz.ty)
  (hc:∀ (k:Nat) (v:Value),c[k]?=some v->∃ u,w.cell? ⟨p.blk,p.shift+k,none⟩=some u/\VRel ρ U.n v u) :
  View w (ρ.put U.n (some p)) (U.push (.cells c p.esz false p.tight))/\More ρ U (ρ.put U.n (some p)) (U.push (.cells c p.esz false p.tight)):=by
 have aW:∀ i,i<U.n->∀ q,(ρ.put U.n (some p)) i=some q->ρ i=some q:=λi hi q hq=>by unfold Plc.put at hq;rwa [z0 (by omega)] at hq
 have bU:(U.push (.cells c p.esz false p.tight)).RO:=λi b hi=>by
  by_cases e:i=U.n
  .subst e;rw[Heap.q0a] at hi;obtain rfl:=osj hi;rfl
  .rw[Heap.q0e _ _ e] at hi;exact h.ro i b hi
 refine⟨⟨⟨⟨?_,?_,?_,?_⟩,λg cs hg=>⟨(h.rel.tab g cs hg).1,λ⟨i,_,b,_,hi,hw,_⟩=>by rw[bU i b hi] at hw;cases hw⟩⟩,bU⟩,⟨by simp,aW,λi hi=>Heap.q0j _ _ hi⟩⟩
 .intro i b hi;by_cases aQ:i=U.n
  .subst aQ;rw[Heap.q0a] at hi;obtain rfl:=osj hi;refine⟨p,by simp[Plc.put],rfl,rfl,hl,⟨C,e,f,hb,hs,ht⟩,λk v hk=>?_,λh=>by cases h⟩;obtain⟨u,hu,hv⟩:=hc k v hk;exact⟨u,hu,hv.mono (by simp) aW⟩
  .rw[Heap.q0e _ _ aQ] at hi;obtain⟨q,hq,hB⟩:=h.rel.live i b hi;exact⟨q,by simp[Plc.put,aQ,hq],hB.mono (by simp) aW rfl⟩
 .intro i hi;by_cases aQ:i=U.n
  .grind [Heap.q0a]
  .rw[Heap.q0e _ _ aQ] at hi;simp[Plc.put,aQ,h.rel.dead i hi]
 .intro i q hq;by_cases aQ:i=U.n
  .subst aQ;simp[Plc.put] at hq
   grind
  .simp[Plc.put,aQ] at hq;exact h.rel.lt i q hq
 .intro i j q r b _ _ _ ck hw _;rw[bU i b ck] at hw;cases hw
theorem Z0o {P:Program}{fits:TypeId->Bool}{d:Nat}{e:TypeId}{count off n:Nat}(h:rowAt P fits d e count off n=true):off<=count*P.cellsOf e:=by
 cases d with
 |zero=>cases h
 |succ d =>
  unfold rowAt at h;by_cases hs:P.cellsOf e=0
  .simp[hs] at h
  .have cT:0<P.cellsOf e:=Nat.pos_of_ne_zero hs;simp only[hs,if_false,zl,z1,zH,z6] at h;have hd:=Nat.div_add_mod off (P.cellsOf e);have hm:=xm off cT;rcases h with⟨⟨h1,h2⟩,_⟩|⟨h1,_⟩
   .have:P.cellsOf e*(off / P.cellsOf e)<=P.cellsOf e*count:=Nat.mul_le_mul_left _ (by omega);rw[xZ count];omega
   .have:P.cellsOf e*(off / P.cellsOf e+1)<=P.cellsOf e*count:=Nat.mul_le_mul_left _ (by omega)
    grind
theorem IF {P:Program}:∀ {d:Nat}{e:TypeId}{count off:Nat}{u:TypeId}{n:Nat},liesAt P d e count off u n=true->off<=count*P.cellsOf e
 |0,_,_,_,_,_,h=>by cases h
 |d+1,e,count,off,u,n,h=>by
  unfold liesAt at h;rw[zl] at h;rcases h with h|h
  .exact Z0o h
  .split at h
   .exact IF h
   .cases h
theorem Q2l {P:Program}{w:World}{r:Reach}{base:Nat}{a:Addr}{e:TypeId}{n:Nat}(h:w.has P r base a e n):∃ C row f,w.heap[a.block]?=some (.cells C row f)/\a.off<=C.size/\a.spot=none:=by
 obtain⟨_,hs,row,cells,dj,hl⟩:=h;unfold World.shape? at dj;split at dj
 .rename_i C e' f hb;obtain⟨rfl,rfl⟩:=(by simpa using dj:e'=row/\C.size=cells);exact⟨C,e',f,hb,zO (IF hl) (Nat.div_mul_le_self _ _),hs⟩
 .cases dj
theorem Lr {P:Program}{w:World}{r:Reach}{base:Nat}{t e:TypeId}{v:Value}(ht:P.underlying t=some (.slice e)) (h:Cell.okWide P w r base t v) :
  v=.slice none 0 0\/∃ a len cap,v=.slice (some a) len cap/\w.has P r base a e cap:=by
 unfold Cell.okWide at h;rw[ht] at h;have h':Cell.ok P w r base t v:=by omega
 unfold Cell.ok at h'
 grind
theorem Z6a {k:IntKind}{x:Int}(h:(Lit.int k x).wf=true):k.min<=x/\x<=k.max:=by simpa [Lit.wf] using h
theorem View.calls {P:Program}{f:FuncId}{w:World}{ρ:Plc}{U:Heap}(h:View w ρ U) {args:List Value}{aw:Array Value}(hl:LRel ρ U.n args aw.toList) (hc:VCallsTo P f args U λv _=>v=.bool true) :
  Calls P f aw w λe w'=>e=.returned (.bool true)/\Below w.heap.size w w':=by
 refine (hc ρ w aw h.rel hl).mono λe w' ⟨c,he,v,ρ',U',hv,hr,_,hx⟩=>?_;subst hv;have:c=.bool true:=by cases hr;rfl
 subst this;exact⟨he,hx.os,hx.tape,hx.output,hx.size,λB hB=>hx.keep B hB λ⟨i,p,b,_,hi,hw,_⟩=>by rw[h.ro i b hi] at hw;cases hw⟩
theorem RS {H:Type}{enc:TypeId×Value->H}{P:Program}(hl:laidOutB P=true) {W W':World}{sp:Nat->Bool}(hb:Below W.heap.size W W') :
  ∀ {ts:List TypeId}{vs:List Value}{ds:List (DataW H)}{ps:List MemPlace},(∀ t∈ts,P.readableRec t=true/\t<P.types.size)->DataW.TrodAll enc P W 0 (λ_=>true) true ts vs ds ps->(∀ p∈ps,p.block<W.heap.size)->(∀ p∈ps,sp p.block=true) ->
   DataW.TrodAll enc P W' 0 sp true ts vs ds ps
 |[],vs,ds,ps,_,h,_,_=>by obtain⟨rfl,rfl,rfl⟩:=trodAll_nil h;rfl
 |t::ts,vs,ds,ps,ht,h,ao,hs=>by
  obtain⟨v,cJ,d,ds',p,q,rfl,rfl,rfl,h1,h2⟩:=trodAll_cons h;obtain⟨r1,r2⟩:=ht t (by simp);exact⟨p,q,WideElems.Trod_stays hl r1 r2 h1 (λx hx=>hb.same (ao x (by simp[hx]))) (λx hx=>hs x (by simp[hx])),
   RS hl hb (λt pN=>ht t (by simp[pN])) h2 (λx hx=>ao x (by simp[hx])) (λx hx=>hs x (by simp[hx])),rfl⟩
theorem Z0f {H:Type}{enc:TypeId×Value->H}{P:Program}{f:Func}{s:ChangeSpec}{apart fresh handsOn again:Bool}{W W':World}{args:Array Value}{ds gs:List (DataW H)}{before:List MemPlace}{tb:TypeId}
  (hl:laidOutB P=true) (hp:f.params.toList.all (λt=>P.readableRec t&&decide (t<P.types.size))=true) (kp:s.vars=[]) (hr:f.resultTypes=#[tb]) (bP:P.underlying tb=some .bool) (hs:s.fn H ds={results:=[.lit (.bool true)],args:=ds})
  (hW:DataW.Whole enc P f.params.toList s.vars apart W args.toList ds gs before) (hb:Below W.heap.size W W'):s.post enc P f apart fresh handsOn again W args (.bool true) W':=by
 have ao:∀ p∈before,p.block<W.heap.size:=λp hp=>hW.lt p hp;have vB:=hW;obtain⟨p,q,hA,hV,rfl,hz,hn⟩:=hW;rw[kp] at hV;obtain⟨rfl,rfl⟩:=trodVars_none hV;have bu:∀ t∈f.params.toList,P.readableRec t=true/\t<P.types.size:=(by grind);have eP:s.fn H (ds++[])={results:=[.lit (.bool true)],args:=ds}:=by rw[xt];exact hs
 have d_:∀ (b:Nat) (sp:Nat->Bool) (hd:Bool),DataW.TrodAll enc P W' b sp hd f.resultTypes.toList ((Value.bool true).resultList f.resultTypes.size) (s.fn H (ds++[])).results []:=λb sp hd=>by rw[eP,hr];exact trodAll_mk1 (shut_bool bP _)
 have aD:∀ sp:Nat->Bool,(∀ x∈p++[],sp x.block=true)->DataW.TrodAll enc P W' 0 sp true f.params.toList args.toList (s.fn H (ds++[])).args p:=(by grind [RS]);have cq:∀ sp:Nat->Bool,DataW.TrodVars enc P W' sp s.vars (s.fn H (ds++[])).vars []:=λsp=>by rw[eP,kp];rfl
 have hold:∀ x∈p++[],(λb=>decide (b<W.heap.size)) x.block=true:=λx hx=>by simpa using ao x hx
 refine⟨ds,[],p++[],[],p,[],vB,d_ _ _ _,aD _ hold,cq _,World.keptBut_mono (λx hx=>⟨hx,?_⟩) (hb.frame (·∈p++[])),λ_=>?_⟩
 .exact .inr (by simpa using hx)
 .refine⟨ok_one hr rfl (okWide_bool_mk bP _),_,_,([]++p)++[],⟨[]++p,[],trodAll_append (aD _ (λ_ _=>rfl)) (d_ _ _ _),cq _,rfl,?_,?_⟩,?_⟩
  .intro b off hx;have aQ:MemPlace.cell b off∈p++[]:=by simpa using hx
   rw[hb.frozen (ao _ aQ)];exact hz b off aQ
  .intro ha;simpa using hn ha
  .intro x hx _;simpa using hx
def KFs (T:Kind->TypeId->Bool) (sz:TypeId->Nat):Kind->List (TypeId×Nat)->Nat->Bool
 |_,[],_=>false
 |k,[p],off=>p.2==off&&(sz p.1==k.size&&T k p.1)
 |.pair a b,p::q::r,off=>p.2==off&&(sz p.1==a.size&&(T a p.1&&KFs T sz b (q::r) (off+a.size)))
 |_,_::_::_,_=>false
def Kind.row:Kind->Bool
 |.list k=>k.flat
 |_=>false
def J21 (P:Program) (t:TypeId):Bool:=match P.underlying t with|some (.slice _)=>true|_=>false
def KTy (P:Program):Nat->Kind->TypeId->Bool
 |0,_,_=>false
 |n+1,k,t=>match P.underlying t with
  |some (.struct fs)=>P.cellsOf t==k.size&&KFs (KTy P n) P.cellsOf k (fs.toList.map λf=>(f.type,f.offset)) 0
  |some (.array m e)=>P.cellsOf t==k.size&&KFs (KTy P n) P.cellsOf k ((List.range m).map λi=>(e,i*P.cellsOf e)) 0
  |some (.int ik)=>(match k with|.i k'=>decide (k'=ik)|_=>false)
  |some .bool=>(match k with|.bo=>true|_=>false)
  |some .string=>(match k with|.st=>true|_=>false)
  |some (.slice e)=>(match k with|.list k'=>P.cellsOf e==k'.size&&((k'.flat||(k'.row&&J21 P e))&&KTy P n k' e)|_=>false)
  |_=>false
def KWf:(k:Kind)->k.T->Prop
 |.i ik,x=>InK ik x
 |.bo,_=>True
 |.st,s=>s.length<=maxLen
 |.list k,l=>l.length<=maxLen/\∀ x∈l,KWf k x
 |.pair a b,x=>KWf a x.1/\KWf b x.2
theorem More.le {ρ ρ':Plc}{U U':Heap}(h:More ρ U ρ' U'):U.Le U':=⟨h.n,λi b hb=>by rw[h.ag i (U.lt hb)];exact hb⟩
def ArgIs (w:World) (ρ:Plc) (U:Heap) (k:Kind) (cs:List Value):Prop :=
 ∃ ρ' U' vs x,View w ρ' U'/\More ρ U ρ' U'/\LRel ρ' U'.n vs cs/\KC U' k x vs/\KWf k x
theorem ArgIs.pair {w:World}{ρ:Plc}{U:Heap}{a b:Kind}{cs ds:List Value}(h1:ArgIs w ρ U a cs) (h2:∀ ρ U,View w ρ U->ArgIs w ρ U b ds):ArgIs w ρ U (.pair a b) (cs++ds):=by obtain⟨ρ1,σ1,sY,x1,k1,k2,k3,k4,k5⟩:=h1;obtain⟨ρ2,σ2,j6,x2,m1,m2,m3,m4,m5⟩:=h2 ρ1 σ1 k1;exact⟨ρ2,σ2,sY++j6,(x1,x2),m1,k2.trans m2,(k3.mono m2.n m2.pl).append m3,⟨sY,j6,rfl,k4.mono m2.le,m4⟩,k5,m5⟩
section
variable {H:Type}{enc:TypeId×Value->H}{P:Program}{w:World}{r:Reach}{base:Nat}
def okc (P:Program) (w:World) (r:Reach) (base:Nat) (ts:List TypeId) (cs:List Value):Prop:=∀ (i:Nat) v u,cs[i]?=some v->ts[i]?=some u->Cell.okWide P w r base u v
theorem Q4d {T:Kind->TypeId->Bool}{sz:TypeId->Nat}{g:TypeId->Option (List TypeId)}(hT:∀ k t ts,T k t=true->g t=some ts->ts.length=k.size) :
  ∀ {k:Kind}{L:List (TypeId×Nat)}{off:Nat}{gR:List (List TypeId)},KFs T sz k L off=true->L.mapM (λp=>g p.1)=some gR->gR.flatten.length=k.size
 |k,[],_,_,h,_=>by simp[KFs] at h
 |k,[p],off,gR,h,hm=>by
  simp only[KFs,z1] at h;cases hg:g p.1 with
  |none=>simp[hg] at hm
  |some ts =>simp[hg] at hm;subst hm;simpa using hT _ _ _ h.2.2 hg
 |.pair a b,p::q::r,off,gR,h,hm=>by
  simp only[KFs,z1] at h;rw[zZ] at hm;cases hg:g p.1 with
  |none=>simp[hg] at hm
  |some ts =>
   cases hr:(q::r).mapM (λp=>g p.1) with
   |none=>simp[hg,hr] at hm
   |some tr =>simp[hg,hr] at hm;subst hm;have:=Q4d hT h.2.2.2 hr;simp only[List.flatten_cons,zn,this,hT _ _ _ h.2.2.1 hg,Kind.size]
 |.i _,_::_::_,_,_,h,_|.bo,_::_::_,_,_,h,_|.st,_::_::_,_,_,h,_|.list _,_::_::_,_,_,h,_=>by cases h
theorem RY {α β γ:Type}{f:α->β}{g:β->Option γ}:∀ (l:List α),(l.map f).mapM g=l.mapM (λx=>g (f x))
 |[]=>rfl
 |a::l=>by simp only[xr,zZ,RY l]
theorem SM {β:Type}{x:β}{f:Nat->Option β}(h:∀ i,f i=some x):∀ l:List Nat,l.mapM f=some (List.replicate l.length x)
 |[]=>rfl
 |a::l=>by simp[zZ,h,SM h l,xn]
theorem Q3u:∀ {n:Nat}{k:Kind}{t:TypeId}{d:Nat}{ts:List TypeId},KTy P n k t=true->P.cellTypes d t=some ts->ts.length=k.size
 |0,_,_,_,_,h,_=>by cases h
 |_+1,_,_,0,_,_,h=>by cases h
 |n+1,k,t,d+1,ts,h,ht=>by
  have ih:∀ k t ts,KTy P n k t=true->P.cellTypes d t=some ts->ts.length=k.size:=λk t ts h1 h2=>Q3u h1 h2;unfold Program.cellTypes at ht;unfold KTy at h;cases hu:P.underlying t with
  |none=>rw[hu] at h;cases h
  |some u =>
   rw[hu] at h ht;cases u<;>first|(cases h;done)|skip
   all_goals simp only at h ht
   .split at h<;>first|(cases h;done)|(obtain rfl:=osj ht;rfl)
   .split at h<;>first|(cases h;done)|(obtain rfl:=osj ht;rfl)
   .split at h<;>first|(cases h;done)|(obtain rfl:=osj ht;rfl)
   .split at h<;>first|(cases h;done)|(obtain rfl:=osj ht;rfl)
   .rename_i m e;rw[z1] at h;cases hc:P.cellTypes d e with
    |none=>rw[hc] at ht;cases ht
    |some te =>rw[hc] at ht;obtain rfl:=osj ht;refine Q4d (g:=λt=>P.cellTypes d t) ih h.2 ?_;rw[RY,SM (x:=te) (λ_=>hc)];simp
   .rename_i fs;rw[z1] at h;cases hc:fs.toList.mapM λf=>P.cellTypes d f.type with
    |none=>rw[hc] at ht;cases ht
    |some gR =>rw[hc] at ht;obtain rfl:=osj ht;refine Q4d (g:=λt=>P.cellTypes d t) ih h.2 ?_;rw[RY];exact hc
theorem R9 {T:Kind->TypeId->Bool}{sz:TypeId->Nat}{Q:TypeId->List Value->Prop}{R:Kind->List Value->Prop}(hT:∀ k t cs,T k t=true->Q t cs->R k cs) (hR:∀ a b cs ds,R a cs->R b ds->R (.pair a b) (cs++ds)) (cs:List Value) :
  ∀ {k:Kind}{L:List (TypeId×Nat)}{off:Nat},KFs T sz k L off=true->(∀ p∈L,Q p.1 ((cs.drop p.2).take (sz p.1)))->R k ((cs.drop off).take k.size)
 |k,[],_,h,_=>by simp[KFs] at h
 |k,[p],off,h,hq=>by
  simp only[KFs,z1,zH] at h
  grind
 |.pair a b,p::q::r,off,h,hq=>by
  simp only[KFs,z1,zH] at h;have h1:=hq p (by simp);rw[h.1,h.2.1] at h1;have h2:=R9 hT hR cs h.2.2.2 (by simp_all);have e:(cs.drop off).take (Kind.pair a b).size=(cs.drop off).take a.size++(cs.drop (off+a.size)).take b.size:=by rw[Kind.size,List.take_add,List.drop_drop]
  grind
 |.i _,_::_::_,_,h,_|.bo,_::_::_,_,h,_|.st,_::_::_,_,h,_|.list _,_::_::_,_,h,_=>by cases h
def FlatIs (k:Kind) (cs:List Value):Prop:=∃ y:k.T,(∀ h,KC h k y cs)/\KWf k y/\∀ ρ m,LRel ρ m cs cs
theorem FlatIs.pair {a b:Kind}{cs ds:List Value}(h1:FlatIs a cs) (h2:FlatIs b ds):FlatIs (.pair a b) (cs++ds):=by obtain⟨x,k1,k2,k3⟩:=h1;obtain⟨y,m1,m2,m3⟩:=h2;exact⟨(x,y),λh=>⟨cs,ds,rfl,k1 h,m1 h⟩,⟨k2,m2⟩,fun ρ m=>(k3 ρ m).append (m3 ρ m)⟩
theorem LRel.one {ρ:Plc}{n:Nat}{v c:Value}(h:VRel ρ n v c):LRel ρ n [v] [c]:=.cons h (.nil _ _)
theorem Ro {fs:Array Field}{f:Field}(h:f∈fs.toList):∃ i:Nat,fs[i]?=some f:=by obtain⟨i,hi,rfl⟩:=List.mem_iff_getElem.1 h;exact⟨i,by simp at hi;simp[hi]⟩
theorem Cu {sp:Nat->Bool}{held:Bool}:∀ {n:Nat}{k:Kind}{t:TypeId}{fuel:Nat}{cs:List Value}{x:DataW H×List MemPlace},KTy P n k t=true->k.flat=true->DataW.trod enc P w base sp held fuel t cs=some x->FlatIs k cs
 |0,_,_,_,_,_,h,_,_=>by cases h
 |n+1,k,t,fuel,cs,x,h,hf,hx=>by
  unfold KTy at h;cases hu:P.underlying t with
  |none=>rw[hu] at h;cases h
  |some u =>
   rw[hu] at h;have hR:∀ a b cs ds,((a.flat=true->FlatIs a cs)/\True)->((b.flat=true->FlatIs b ds)/\True)->(((Kind.pair a b).flat=true->FlatIs (.pair a b) (cs++ds))/\True):=λa b cs ds h1 h2=>⟨λhf=>by
    simp only[Kind.flat,z1] at hf;exact(h1.1 hf.1).pair (h2.1 hf.2),trivial⟩
   have hT:∀ k t cs,KTy P n k t=true->(∃ fuel x,DataW.trod enc P w base sp held fuel t cs=some x)->((k.flat=true->FlatIs k cs)/\True):=λk t cs h1 ⟨fuel,x,h2⟩=>⟨λhf=>Cu h1 hf h2,trivial⟩;cases u<;>first|(cases h;done)|skip
   all_goals simp only at h
   .split at h<;>first|(cases h;done)|skip
    obtain⟨b,rfl,_⟩:=DataW.trod_bool hu hx;exact⟨b,λ_=>rfl,trivial,λ_ _=>.one (.bool _)⟩
   .split at h<;>first|(cases h;done)|skip
    obtain rfl:=zA h;obtain⟨z,rfl,_,hw⟩:=DataW.trod_int hu hx;exact⟨z,λ_=>rfl,Z6a hw,λ_ _=>.one (.int _ _)⟩
   .split at h<;>first|(cases h;done)|skip
    obtain⟨s,rfl,_,hs⟩:=DataW.trod_string hu hx;exact⟨s.data.toList,λ_=>rfl,hs,λ_ _=>.one (.string _)⟩
   .split at h<;>first|(cases h;done)|(cases hf;done)
   .rename_i m e;simp only[z1,zH] at h;obtain⟨xs,m',_,_,hl,ft,hx⟩:=DataW.trod_array hu hx;have:=(R9 (R:=λk cs=>(k.flat=true->FlatIs k cs)/\True) hT hR cs h.2 (by grind)).1 hf
    grind
   .rename_i fs;simp only[z1,zH] at h;obtain⟨xs,m',_,_,hl,ft,hx⟩:=DataW.trod_struct hu hx;have:=(R9 (R:=λk cs=>(k.flat=true->FlatIs k cs)/\True) hT hR cs h.2 (by grind [Ro,Array.getElem?_eq_some_iff,List.getElem?_eq_getElem])).1 hf
    grind
theorem Rows.range {α:Type}{R:α->List Value->Prop}{n:Nat}{c:List Value}{x:Nat->α}:∀ (m:Nat),(∀ i,i<m->R (x i) ((c.drop (i*n)).take n))->Rows R ((List.range m).map x) (c.take (m*n))
 |0,_=>by simp;exact .nil
 |m+1,h=>by
  have e:c.take ((m+1)*n)=c.take (m*n)++(c.drop (m*n)).take n:=by rw[zE,xu,List.take_add]
  rw[List.range_succ,xi,e];exact(Rows.range m λi hi=>h i (by omega)).append (by simpa using Rows.cons (h m (by omega)) .nil)
theorem Ld {α:Type}[Inhabited α] {m:Nat}{p:Nat->α->Prop}(h:∀ i,i<m->∃ x,p i x):∃ f:Nat->α,∀ i,i<m->p i (f i) :=
 ⟨λi=>if hi:i<m then (h i hi).choose else default,(by grind)⟩
instance KInh (k:Kind):Inhabited k.T:=⟨k.dflt⟩
theorem View.list {ρ:Plc}{U:Heap}(h:View w ρ U) {n:Nat}{k:Kind}{t e:TypeId}{fuel:Nat}{cs:List Value}{x:DataW H×List MemPlace}(hu:P.underlying t=some (.slice e)) (hs:P.cellsOf e=k.size) (hf:k.flat=true) (hk:KTy P n k e=true)
  (hx:DataW.trod enc P w 0 (λ_=>true) true fuel t cs=some x) (au:okc P w r base [t] cs):ArgIs w ρ U (.list k) cs:=by
 rcases open_slice hu hx with⟨rfl,_⟩|⟨a,len,cap,m,fu,D,Pl,rfl,hb,hl,hm,fQ,_,hel⟩
 .exact⟨ρ,U,[.slice none 0 0],[],h,More.refl _ _,.one .nilSl,⟨_,rfl,.inl ⟨rfl,rfl⟩⟩,by simp[maxLen],λ_ hx=>by cases hx⟩
 simp only[zq] at fQ;subst fQ;rw[hs] at hel;have lL:w.has P r base a e m:=by
  rcases Lr hu (au 0 _ t rfl rfl) with hh|⟨a',rF,av,hh,h2⟩
  .cases hh
  .cases hh;exact h2
 obtain⟨C,row,f,aE,a9,fb⟩:=Q2l lL;obtain⟨blk,off,spot⟩:=a;simp only at aE a9 fb;subst fb;have fM:∀ i,(⟨blk,off,none⟩:Addr).add i=⟨blk,off+i,none⟩:=λi=>by unfold Addr.add;split<;>simp_all
 obtain⟨X,hX⟩:=Ld (α:=k.T×List Value) (m:=m) (p:=λi p=>p.2.length=k.size/\(∀ j,j<k.size->w.cell? ⟨blk,off+i*k.size+j,none⟩=p.2[j]?)/\(∀ h,KC h k p.1 p.2)/\KWf k p.1/\∀ ρ m,LRel ρ m p.2 p.2) λi hi=>by
  obtain⟨cs',h1,h2⟩:=hel i hi;obtain⟨_,k1,k2⟩:=World.cells?_some h1;obtain⟨y,m1,m2,m3⟩:=Cu hk hf h2;refine⟨(y,cs'),k1,λj hj=>?_,m1,m2,m3⟩;have:=k2 j hj;rw[fM] at this;have e2:(⟨blk,off+i*k.size,none⟩:Addr).add j=⟨blk,off+i*k.size+j,none⟩:=by unfold Addr.add;split<;>simp_all
  rw[e2] at this;exact this
 have cT:=k.size_pos;let c:List Value:=(List.range (m*k.size)).map λj=>((X (j / k.size)).2[j % k.size]?).getD undef;have cm:c.length=m*k.size:=by simp[c]
 have hdiv:∀ j,j<m*k.size->j / k.size<m:=λj hj=>Nat.div_lt_of_lt_mul (by rw[xZ];exact hj);have bH:∀ j,j<m*k.size->∃ v,c[j]?=some v/\w.cell? ⟨blk,off+j,none⟩=some v/\∀ ρ m,VRel ρ m v v:=λj hj=>by
  have h1:=hX (j / k.size) (hdiv j hj);have gg:j % k.size<k.size:=xm _ cT;have h2:=h1.2.1 _ gg;have e:off+j / k.size*k.size+j % k.size=off+j:=by rw[zo,Nat.div_add_mod']
  rw[e] at h2;have h3:j % k.size<(X (j / k.size)).2.length:=by rw[h1.1];exact gg
  refine⟨(X (j / k.size)).2[j % k.size],?_,?_,fun ρ m=>(h1.2.2.2.2 ρ m).2 _ _ _ (z3 h3) (z3 h3)⟩
  .grind
  .rw[h2,z3 h3]
 have rG:∀ i,i<m->(c.drop (i*k.size)).take k.size=(X i).2:=λi hi=>by
  have h1:=hX i hi;have hle:i*k.size+k.size<=m*k.size:=by have:(i+1)*k.size<=m*k.size:=zk _ hi;rw[zE] at this;omega
  apply zK
  grind
 have aH:off+m*k.size<=C.size:=by
  rcases Nat.eq_zero_or_pos (m*k.size) with h0|h0
  .omega
  .obtain⟨v,_,h2,_⟩:=bH (m*k.size-1) (by omega);unfold World.cell? at h2
   grind
 obtain⟨hv,ku⟩:=h.add ⟨blk,off,m*k.size,⟨k.size,row⟩,false⟩ c aE aH (by simp[cm]) rfl (by grind);have hlen:((List.range len).map λi=>(X i).1).length=len:=by simp
 refine⟨_,_,[.slice (some ⟨U.n,0,none⟩) len m],(List.range len).map λi=>(X i).1,hv,ku,.one ?_,⟨_,rfl,.inr ⟨U.n,0,m,c,⟨k.size,row⟩,false,false,by rw[hlen],by rw[hlen];exact hl,Heap.q0a _ _,rfl,?_,?_⟩⟩,?_,λy hy=>?_⟩
 .refine .sl _ _ _ _ _ _ (by simp) λp hp=>?_;simp[Plc.put] at hp;subst hp;simp_all
 .rw[hlen,cm,zY];exact zk _ hl
 .grind [Rows.range]
 .rw[hlen];exact zO hl hm
 grind
theorem View.listH {ρ:Plc}{U:Heap}(h:View w ρ U) {n:Nat}{k:Kind}{t e:TypeId}{fuel:Nat}{cs:List Value}{x:DataW H×List MemPlace}(hu:P.underlying t=some (.slice e)) (hs:P.cellsOf e=k.size) (hf:k.flat=true) (hk:KTy P n k e=true)
  (hx:DataW.trod enc P w 0 (λ_=>true) true fuel t cs=some x) (hA:∃ (b:Nat) (C:Array Value) (e:TypeId) (f:Nat×Nat),w.heap[b]?=some (Obj.cells C e f)):ArgIs w ρ U (.list k) cs:=by
 rcases open_slice hu hx with⟨rfl,_⟩|⟨a,len,cap,m,fu,D,Pl,rfl,hb,hl,hm,fQ,_,hel⟩
 .exact⟨ρ,U,[.slice none 0 0],[],h,More.refl _ _,.one .nilSl,⟨_,rfl,.inl ⟨rfl,rfl⟩⟩,by simp[maxLen],λ_ hx=>by cases hx⟩
 simp only[zq] at fQ;subst fQ;rw[hs] at hel;have cT:=k.size_pos;by_cases cu:m=0
 .
  subst cu;obtain rfl:len=0:=by omega
  obtain⟨b0,C0,e0,f0,pP⟩:=hA;obtain⟨hv,ku⟩:=h.add ⟨b0,0,0,⟨k.size,e0⟩,false⟩ [] pP (Nat.zero_le _) (z4 _) rfl (λj v hj=>by simp at hj);refine⟨_,_,[.slice (some ⟨U.n,0,none⟩) 0 0],[],hv,ku,.one ?_,⟨_,rfl,.inr ⟨U.n,0,0,[],⟨k.size,e0⟩,false,false,rfl,z4 _,Heap.q0a _ _,rfl,?_,?_⟩⟩,by simp[KWf],λy hy=>by cases hy⟩
  .refine .sl _ _ _ _ _ _ (by simp) (by omega)
  .simp
  .simpa using Rows.nil
 obtain⟨C,row,f,aE,a9,fb⟩:∃ C row f,w.heap[a.block]?=some (Obj.cells C row f)/\a.off<=C.size/\a.spot=none:=by
  obtain⟨cs',h1,_⟩:=hel 0 (by omega);obtain⟨_,c1,c2⟩:=World.cells?_some h1;have c3:=c2 0 cT;have e0:(a.add (0*k.size)).add 0=a:=by simp[Addr.add]
  rw[e0,z3 (by omega)] at c3;unfold World.cell? at c3;split at c3
  .rename_i C row f aE;split at c3
   .cases c3
   .rename_i hs;exact⟨C,row,f,aE,(by grind),by simpa using hs⟩
  .cases c3
 obtain⟨blk,off,spot⟩:=a;simp only at aE a9 fb;subst fb;have fM:∀ i,(⟨blk,off,none⟩:Addr).add i=⟨blk,off+i,none⟩:=λi=>by unfold Addr.add;split<;>simp_all
 obtain⟨X,hX⟩:=Ld (α:=k.T×List Value) (m:=m) (p:=λi p=>p.2.length=k.size/\(∀ j,j<k.size->w.cell? ⟨blk,off+i*k.size+j,none⟩=p.2[j]?)/\(∀ h,KC h k p.1 p.2)/\KWf k p.1/\∀ ρ m,LRel ρ m p.2 p.2) λi hi=>by
  obtain⟨cs',h1,h2⟩:=hel i hi;obtain⟨_,k1,k2⟩:=World.cells?_some h1;obtain⟨y,m1,m2,m3⟩:=Cu hk hf h2;refine⟨(y,cs'),k1,λj hj=>?_,m1,m2,m3⟩;have:=k2 j hj;rw[fM] at this;have e2:(⟨blk,off+i*k.size,none⟩:Addr).add j=⟨blk,off+i*k.size+j,none⟩:=by unfold Addr.add;split<;>simp_all
  rw[e2] at this;exact this
 let c:List Value:=(List.range (m*k.size)).map λj=>((X (j / k.size)).2[j % k.size]?).getD undef;have cm:c.length=m*k.size:=by simp[c]
 have hdiv:∀ j,j<m*k.size->j / k.size<m:=λj hj=>Nat.div_lt_of_lt_mul (by rw[xZ];exact hj);have bH:∀ j,j<m*k.size->∃ v,c[j]?=some v/\w.cell? ⟨blk,off+j,none⟩=some v/\∀ ρ m,VRel ρ m v v:=λj hj=>by
  have h1:=hX (j / k.size) (hdiv j hj);have gg:j % k.size<k.size:=xm _ cT;have h2:=h1.2.1 _ gg;have e:off+j / k.size*k.size+j % k.size=off+j:=by rw[zo,Nat.div_add_mod']
  rw[e] at h2;have h3:j % k.size<(X (j / k.size)).2.length:=by rw[h1.1];exact gg
  refine⟨(X (j / k.size)).2[j % k.size],?_,?_,fun ρ m=>(h1.2.2.2.2 ρ m).2 _ _ _ (z3 h3) (z3 h3)⟩
  .grind
  .rw[h2,z3 h3]
 have rG:∀ i,i<m->(c.drop (i*k.size)).take k.size=(X i).2:=λi hi=>by
  have h1:=hX i hi;have hle:i*k.size+k.size<=m*k.size:=by have:(i+1)*k.size<=m*k.size:=zk _ hi;rw[zE] at this;omega
  apply zK
  grind
 have aH:off+m*k.size<=C.size:=by
  rcases Nat.eq_zero_or_pos (m*k.size) with h0|h0
  .omega
  .obtain⟨v,_,h2,_⟩:=bH (m*k.size-1) (by omega);unfold World.cell? at h2
   grind
 obtain⟨hv,ku⟩:=h.add ⟨blk,off,m*k.size,⟨k.size,row⟩,false⟩ c aE aH (by simp[cm]) rfl (by grind);have hlen:((List.range len).map λi=>(X i).1).length=len:=by simp
 refine⟨_,_,[.slice (some ⟨U.n,0,none⟩) len m],(List.range len).map λi=>(X i).1,hv,ku,.one ?_,⟨_,rfl,.inr ⟨U.n,0,m,c,⟨k.size,row⟩,false,false,by rw[hlen],by rw[hlen];exact hl,Heap.q0a _ _,rfl,?_,?_⟩⟩,?_,λy hy=>?_⟩
 .refine .sl _ _ _ _ _ _ (by simp) λp hp=>?_;simp[Plc.put] at hp;subst hp;simp_all
 .rw[hlen,cm,zY];exact zk _ hl
 .grind [Rows.range]
 .rw[hlen];exact zO hl hm
 grind
theorem View.list2 {ρ:Plc}{U:Heap}(h:View w ρ U) {n:Nat}{k:Kind}{t e e2:TypeId}{fuel:Nat}{cs:List Value}{x:DataW H×List MemPlace}(hu:P.underlying t=some (.slice e)) (hs:P.cellsOf e=1)
  (l8:P.underlying e=some (.slice e2)) (bG:P.cellsOf e2=k.size) (hf:k.flat=true) (hk:KTy P n k e2=true)
  (hx:DataW.trod enc P w 0 (λ_=>true) true fuel t cs=some x) (au:okc P w r base [t] cs):ArgIs w ρ U (.list (.list k)) cs:=by
 rcases open_slice hu hx with⟨rfl,_⟩|⟨a,len,cap,m,fu,D,Pl,rfl,hb,hl,hm,fQ,_,hel⟩
 .exact⟨ρ,U,[.slice none 0 0],[],h,More.refl _ _,.one .nilSl,⟨_,rfl,.inl ⟨rfl,rfl⟩⟩,by simp[maxLen],λ_ hx=>by cases hx⟩
 simp only[zq] at fQ;subst fQ;rw[hs] at hel;have lL:w.has P r base a e m:=by
  rcases Lr hu (au 0 _ t rfl rfl) with hh|⟨a',rF,av,hh,h2⟩
  .cases hh
  .cases hh;exact h2
 obtain⟨C,row,f,aE,a9,fb⟩:=Q2l lL;obtain⟨blk,off,spot⟩:=a;simp only at aE a9 fb;subst fb;have fM:∀ i,(⟨blk,off,none⟩:Addr).add i=⟨blk,off+i,none⟩:=λi=>by unfold Addr.add;split<;>simp_all
 have rows:∀ j,j<=m->∃ ρ' U',∃ vs:List Value,∃ xs:List (List k.T),View w ρ' U'/\More ρ U ρ' U'/\vs.length=j/\xs.length=j/\(∀ (i:Nat) v,vs[i]?=some v->∃ u,w.cell? ⟨blk,off+i,none⟩=some u/\VRel ρ' U'.n v u) /\
   Rows (KC U' (.list k)) xs vs/\∀ y∈xs,KWf (.list k) y:=by
  intro j;induction j with
  |zero=>exactλ_=>⟨ρ,U,[],[],h,More.refl _ _,rfl,rfl,λi v hi=>by simp at hi,.nil,λy hy=>by cases hy⟩
  |succ j ih =>
   intro hj;obtain⟨ρ1,σ1,vs,xs,k1,k2,k3,k4,k5,k6,k7⟩:=ih (by omega);obtain⟨cs',h1,h2⟩:=hel j (by omega);obtain⟨_,c1,c2⟩:=World.cells?_some h1;have c3:=c2 0 (by omega);obtain⟨u,rfl⟩:=zI.1 c1;have jX:((⟨blk,off,none⟩:Addr).add (j*1)).add 0=⟨blk,off+j,none⟩:=by rw[fM,Nat.mul_one];unfold Addr.add;split<;>simp_all
   rw[jX] at c3;have c4:w.cell? ⟨blk,off+j,none⟩=some u:=c3;obtain⟨ρ2,σ2,vv,y,m1,m2,m3,m4,m5⟩:=k1.listH l8 bG hf hk h2 ⟨blk,C,row,f,aE⟩;have mJ:vv.length=1:=by obtain⟨v,rfl,_⟩:=m4;rfl
   obtain⟨v,rfl⟩:=zI.1 mJ;refine⟨ρ2,σ2,vs++[v],xs++[y],m1,k2.trans m2,by rw[zn,k3];rfl,by rw[zn,k4];rfl,λi v' hi=>?_,?_,λz hz=>?_⟩
   .by_cases cE:i<vs.length
    .rw[xd cE] at hi;obtain⟨u',g1,g2⟩:=k5 i v' hi;exact⟨u',g1,g2.mono m2.n m2.pl⟩
    .have hU:i<(vs++[v]).length:=(zi.1 hi).1;rw[zn,zV] at hU;have vC:i=j:=by omega
     subst vC;rw[xj (by omega),k3,wA] at hi;obtain rfl:=osj hi;exact⟨u,c4,m3.2 0 _ _ rfl rfl⟩
   .exact(k6.mono λ_ _ hc=>KC.mono m2.le hc).append (by simpa using Rows.cons m4 .nil)
   .grind
 obtain⟨ρ1,σ1,vs,xs,k1,k2,k3,k4,k5,k6,k7⟩:=rows m (z4 _);have aH:off+m<=C.size:=by
  rcases Nat.eq_zero_or_pos m with h0|h0
  .omega
  .obtain⟨u,h2,_⟩:=k5 (m-1) _ (z3 (by omega));unfold World.cell? at h2
   grind
 obtain⟨hv,ku⟩:=k1.add ⟨blk,off,m,⟨1,row⟩,false⟩ vs aE aH (by simp[k3]) rfl (λj v hj=>k5 j v hj);have hR:Rows (KC (σ1.push (.cells vs ⟨1,row⟩ false false)) (.list k)) xs vs:=k6.mono λ_ _ hc=>KC.mono ku.le hc;have hlen:(xs.take len).length=len:=by rw[xI,k4];omega
 have rH:(Kind.list k).size=1:=rfl;refine⟨_,_,[.slice (some ⟨σ1.n,0,none⟩) len m],xs.take len,hv,k2.trans ku,.one ?_,⟨_,rfl,.inr ⟨σ1.n,0,m,vs,⟨1,row⟩,false,false,by rw[hlen],by rw[hlen];exact hl,Heap.q0a _ _,rfl,?_,?_⟩⟩,?_,λy hy=>?_⟩
 .refine .sl _ _ _ _ _ _ (by simp) λp hp=>?_;simp[Plc.put] at hp;subst hp;simp_all
 .rw[rH,k3];omega
 .grind [Rows.take,KC.length]
 .rw[hlen];exact zO hl hm
 .exact k7 y (List.mem_of_mem_take hy)
def Kind.lev1:Kind->Bool
 |.list k=>k.flat||k.row
 |.pair a b=>a.lev1&&b.lev1
 |_=>true
theorem Q67 {ts:List TypeId}{cs:List Value}(h:okc P w r base ts cs) (o n:Nat):okc P w r base ((ts.drop o).take n) ((cs.drop o).take n):=λi v u h1 h2=>by
 have hi:i<n:=by
  grind
 rw[List.getElem?_take_of_lt hi,zN] at h1 h2;exact h _ v u h1 h2
theorem Eu {T:Kind->TypeId->Bool}{sz:TypeId->Nat}{g:TypeId->Option (List TypeId)}(hT:∀ k t ts,T k t=true->g t=some ts->ts.length=k.size) :
  ∀ {k:Kind}{L:List (TypeId×Nat)}{off:Nat}{gR:List (List TypeId)},KFs T sz k L off=true->L.mapM (λp=>g p.1)=some gR->∀ p∈L,off<=p.2/\g p.1=some ((gR.flatten.drop (p.2-off)).take (sz p.1))
 |k,[],_,_,h,_=>by simp[KFs] at h
 |k,[p],off,gR,h,hm=>by
  simp only[KFs,z1,zH] at h;intro p' hp;obtain rfl:=zx.1 hp;cases hg:g p'.1 with
  |none=>simp[hg] at hm
  |some ts =>
   simp[hg] at hm;subst hm;refine⟨by omega,?_⟩;rw[h.1,wA,xA,h.2.1,zP]
   .simp
   .simp[hT _ _ _ h.2.2 hg]
 |.pair a b,p::q::r,off,gR,h,hm=>by
  simp only[KFs,z1,zH] at h;rw[zZ] at hm;intro p' hp;cases hg:g p.1 with
  |none=>simp[hg] at hm
  |some ts =>
   cases hr:(q::r).mapM (λp=>g p.1) with
   |none=>simp[hg,hr] at hm
   |some tr =>
    simp[hg,hr] at hm;subst hm;have hlen:=hT _ _ _ h.2.2.1 hg;rcases zB.1 hp with rfl|hp
    .simp_all
    .obtain⟨h1,h2⟩:=Eu hT h.2.2.2 hr p' hp
     grind [List.drop_eq_nil_of_le,List.flatten_cons,List.drop_append]
 |.i _,_::_::_,_,_,h,_|.bo,_::_::_,_,_,h,_|.st,_::_::_,_,_,h,_|.list _,_::_::_,_,_,h,_=>by cases h
theorem Q0a:∀ {n:Nat}{k:Kind}{t:TypeId}{d:Nat}{ts:List TypeId}{fuel:Nat}{cs:List Value}{x:DataW H×List MemPlace},KTy P n k t=true->k.lev1=true->P.cellTypes d t=some ts->okc P w r base ts cs->DataW.trod enc P w 0 (λ_=>true) true fuel t cs=some x->∀ ρ U,View w ρ U->ArgIs w ρ U k cs
 |0,_,_,_,_,_,_,_,h,_,_,_,_=>by cases h
 |_+1,_,_,0,_,_,_,_,_,_,h,_,_=>by cases h
 |n+1,k,t,d+1,ts,fuel,cs,x,h,hf,eW,au,hx=>by
  intro ρ U hv;by_cases gp:k.flat=true
  .obtain⟨y,h1,h2,h3⟩:=Cu h gp hx;exact⟨ρ,U,cs,y,hv,More.refl _ _,h3 _ _,h1 _,h2⟩
  unfold KTy at h;cases hu:P.underlying t with
  |none=>rw[hu] at h;cases h
  |some u =>
   rw[hu] at h;let Q:TypeId->List Value->Prop:=λt cs=>(∃ fuel x,DataW.trod enc P w 0 (λ_=>true) true fuel t cs=some x)/\∃ ts,P.cellTypes d t=some ts/\okc P w r base ts cs;let R:Kind->List Value->Prop:=λk cs=>k.lev1=true->∀ ρ U,View w ρ U->ArgIs w ρ U k cs;have hR:∀ a b cs ds,R a cs->R b ds->R (.pair a b) (cs++ds):=λa b cs ds h1 h2 hl ρ U hv=>by simp only[Kind.lev1,z1] at hl;exact(h1 hl.1 ρ U hv).pair fun ρ U hv=>h2 hl.2 ρ U hv
   have hT:∀ k t cs,KTy P n k t=true->Q t cs->R k cs:=λk t cs h1 ⟨⟨fuel,x,h2⟩,ts,h3,h4⟩ hl=>Q0a h1 hl h3 h4 h2;have hlen:∀ k t ts,KTy P n k t=true->P.cellTypes d t=some ts->ts.length=k.size:=λk t ts h1 h2=>Q3u h1 h2;unfold Program.cellTypes at eW;rw[hu] at eW;cases u<;>first|(cases h;done)|skip
   all_goals simp only at h
   .split at h<;>first|(cases h;done)|(exact absurd rfl gp)
   .split at h<;>first|(cases h;done)|(exact absurd rfl gp)
   .split at h<;>first|(cases h;done)|(exact absurd rfl gp)
   .rename_i e;split at h<;>first|(cases h;done)|skip
    simp only[z1,zH] at h;simp only[x6] at eW;subst eW;rcases zl _ _▸h.2.1 with hk|hk
    .exact hv.list hu h.1 hk h.2.2 hx au
    .rename_i k';rw[z1] at hk;obtain⟨hk,fy⟩:=hk;cases k'<;>first|(cases hk;done)|skip
     rename_i k2;have h3:=h.2.2;unfold J21 at fy;split at fy<;>first|(cases fy;done)|skip
     rename_i e2 l8;cases n with
     |zero=>cases h3
     |succ n =>unfold KTy at h3;rw[l8] at h3;simp only[z1,zH] at h3;exact hv.list2 hu h.1 l8 h3.1 hk h3.2.2 hx au
   .rename_i m e;simp only[z1,zH] at h;obtain⟨xs,m',_,_,hl,ft,hx⟩:=DataW.trod_array hu hx;simp only at eW;cases hc:P.cellTypes d e with
    |none=>rw[hc] at eW;cases eW
    |some te =>
     rw[hc] at eW;obtain rfl:=osj eW;have kT:((List.range m).map λi=>(e,i*P.cellsOf e)).mapM (λp:TypeId×Nat=>P.cellTypes d p.1)=some (List.replicate m te):=by rw[RY,SM (x:=te) (λ_=>hc)];simp
     have:=R9 (Q:=Q) (R:=R) hT hR cs h.2 (λp hp=>by
      have mI:=Eu (g:=λt=>P.cellTypes d t) hlen h.2 kT p hp
      grind [List.getElem?_eq_getElem,Q67]) hf ρ U hv
     rwa [xA,zP (by omega)] at this
   .rename_i fs;simp only[z1,zH] at h;obtain⟨xs,m',_,_,hl,ft,hx⟩:=DataW.trod_struct hu hx;simp only at eW;cases hc:fs.toList.mapM λf=>P.cellTypes d f.type with
    |none=>rw[hc] at eW;cases eW
    |some gR =>
     rw[hc] at eW;obtain rfl:=osj eW;have kT:(fs.toList.map λf=>(f.type,f.offset)).mapM (λp:TypeId×Nat=>P.cellTypes d p.1)=some gR:=by rw[RY];exact hc
     have:=R9 (Q:=Q) (R:=R) hT hR cs h.2 (λp hp=>by
      have mI:=Eu (g:=λt=>P.cellTypes d t) hlen h.2 kT p hp
      grind [Ro,Array.getElem?_eq_some_iff,List.getElem?_eq_getElem,Q67]) hf ρ U hv
     rwa [xA,zP (by omega)] at this
def isAgg (P:Program) (t:TypeId):Bool:=match P.underlying t with
 |some (.struct _)=>true
 |some (.array _ _)=>true
 |_=>false
theorem View.arg {ρ:Plc}{U:Heap}(h:View w ρ U) {n:Nat}{k:Kind}{t:TypeId}{v:Value}{d:DataW H}{p:List MemPlace}(hk:KTy P n k t=true) (hl:k.lev1=true) (ha:isAgg P t=!k.one) (au:Value.okWide P w r base t v) (hd:DataW.Trod enc P w 0 (λ_=>true) true t v d p) :
  ∃ ρ' U' vv x,View w ρ' U'/\More ρ U ρ' U'/\VRel ρ' U'.n vv v/\KV U' k x vv/\KWf k x:=by
 obtain⟨fuel,hd⟩:=hd;by_cases fZ:isAgg P t=true
 .have bM:k.one=false:=by rw[fZ] at ha;simpa using ha.symm
  have:∃ cs,v=.agg cs/\cs.size=P.cellsOf t/\Row.okWide P w r base t cs:=by
   unfold isAgg at fZ;unfold Value.okWide at au
   grind
  obtain⟨cs,rfl,aH,ts,eW,_,cR⟩:=this;have hlen:=Q3u hk eW;have aC:P.cellsOf t=k.size:=by
   unfold isAgg at fZ;cases n with
   |zero=>cases hk
   |succ n =>
    unfold KTy at hk;split at fZ<;>first|(cases fZ;done)|skip
    all_goals
     rename_i hu;rw[hu] at hk;simp only[z1,zH] at hk;exact hk.1
  have lM:okc P w r base ts cs.toList:=λi v u h1 h2=>by
   grind [List.getElem?_eq_some_iff,Nat.mod_eq_of_lt,osj]
  obtain⟨ρ',U',vs,x,k1,k2,k3,k4,k5⟩:=Q0a hk hl eW lM (show DataW.trod enc P w 0 _ true fuel t cs.toList=_ from hd) ρ U h;exact⟨ρ',U',.agg vs.toArray,x,k1,k2,VRel.q1l (ds:=cs.toList) k3,.inr ⟨bM,vs,rfl,k4⟩,k5⟩
 .have bM:k.one=true:=by
   simp_all
  have iG:=Kind.q1q bM;have bH:Cell.okWide P w r base t v/\v.cells.toList=[v]:=by
   have h1:isAgg P t=false:=by simpa using fZ
   unfold isAgg at h1;have h2:Cell.okWide P w r base t v:=by
    unfold Value.okWide at au
    grind
   refine⟨h2,?_⟩;cases v<;>first|rfl|skip
   all_goals
    exfalso;cases n with
    |zero=>cases hk
    |succ n =>
     unfold KTy at hk;unfold Cell.okWide Cell.ok at h2;cases hu:P.underlying t with
     |none=>rw[hu] at hk;cases hk
     |some u =>rw[hu] at hk h2 h1;cases u<;>first|(cases hk;done)|(cases h1;done)|(cases h2;done)|(simp at h2;done)
  have eW:P.cellTypes 1 t=some [t]:=by
   have h1:isAgg P t=false:=by simpa using fZ
   unfold isAgg at h1;unfold Program.cellTypes;cases n with
   |zero=>cases hk
   |succ n =>
    unfold KTy at hk;cases hu:P.underlying t with
    |none=>rw[hu] at hk;cases hk
    |some u =>rw[hu] at h1;cases u<;>first|rfl|(cases h1;done)
  rw[bH.2] at hd;have lM:okc P w r base [t] [v]:=λi v' u h1 h2=>by
   grind
  obtain⟨ρ',U',vs,x,k1,k2,k3,k4,k5⟩:=Q0a hk hl eW lM hd ρ U h;have:vs.length=1:=by rw[KC.length k4];exact iG
  obtain⟨vv,rfl⟩:=zI.1 this;exact⟨ρ',U',vv,x,k1,k2,k3.2 0 _ _ rfl rfl,.inl ⟨bM,k4⟩,k5⟩
def AWf:(ks:List Kind)->AT ks->Prop
 |[],_=>True
 |[k],x=>KWf k x
 |k::k'::ks,x=>KWf k x.1/\AWf (k'::ks) x.2
def Z5v (P:Program):List Kind->List TypeId->Bool
 |[],[]=>true
 |k::ks,t::ts=>(KTy P 8 k t&&(k.lev1&&(isAgg P t==!k.one)))&&Z5v P ks ts
 |_,_=>false
theorem View.args:∀ {ks:List Kind}{ts:List TypeId}{vs:List Value}{ds:List (DataW H)}{ps:List MemPlace}{ρ:Plc}{U:Heap},View w ρ U->Z5v P ks ts=true->(∀ (j:Nat) t v,ts[j]?=some t->vs[j]?=some v->Value.okWide P w r base t v)->DataW.TrodAll enc P w 0 (λ_=>true) true ts vs ds ps ->
  ∃ ρ' U' mB x,View w ρ' U'/\More ρ U ρ' U'/\LRel ρ' U'.n mB vs/\Ip U' ks x mB/\AWf ks x
 |[],[],vs,ds,ps,ρ,U,h,_,_,hA=>by obtain⟨rfl,rfl,rfl⟩:=trodAll_nil hA;exact⟨ρ,U,[],(),h,More.refl _ _,.nil _ _,rfl,trivial⟩
 |[k],[t],vs,ds,ps,ρ,U,h,hk,hv,hA=>by obtain⟨v,cJ,d,ds',p,q,rfl,rfl,rfl,h1,h2⟩:=trodAll_cons hA;obtain⟨rfl,rfl,rfl⟩:=trodAll_nil h2;simp only[Z5v,z1,zH] at hk;obtain⟨ρ',U',vv,x,k1,k2,k3,k4,k5⟩:=h.arg hk.1.1 hk.1.2.1 hk.1.2.2 (hv 0 t v rfl rfl) h1;exact⟨ρ',U',[vv],x,k1,k2,.one k3,⟨vv,rfl,k4⟩,k5⟩
 |k::k'::ks,t::ts,vs,ds,ps,ρ,U,h,hk,hv,hA=>by obtain⟨v,cJ,d,ds',p,q,rfl,rfl,rfl,h1,h2⟩:=trodAll_cons hA;simp only[Z5v,z1,zH] at hk;obtain⟨ρ1,σ1,vv,x,k1,k2,k3,k4,k5⟩:=h.arg hk.1.1 hk.1.2.1 hk.1.2.2 (hv 0 t v rfl rfl) h1;obtain⟨ρ2,σ2,mB,y,m1,m2,m3,m4,m5⟩:=k1.args (ks:=k'::ks) hk.2 (λj t v h1 h2=>hv (j+1) t v h1 h2) h2;exact⟨ρ2,σ2,vv::mB,(x,y),m1,k2.trans m2,.cons (k3.mono m2.n m2.pl) m3,⟨vv,mB,rfl,k4.vcall m2.le,m4⟩,k5,m5⟩
 |[],_::_,_,_,_,_,_,_,hk,_,_|_::_,[],_,_,_,_,_,_,hk,_,_|[_],_::_::_,_,_,_,_,_,_,hk,_,_=>by simp[Z5v] at hk
theorem Q9j (hT:J1v w) {f:Nat}{sp:CSp}(fb:OkC P f sp) (he:Km P f) {ks:List Kind}{ts:List TypeId}{args:Array Value}{ds:List (DataW H)}{ps:List MemPlace}(hk:Z5v P ks ts=true)
  (hv:∀ (j:Nat) t v,ts[j]?=some t->args.toList[j]?=some v->Value.okWide P w r base t v) (hA:DataW.TrodAll enc P w 0 (λ_=>true) true ts args.toList ds ps)
  (hs:∀ x:AT ks,AWf ks x->∃ c,sp (λ_ _=>none) (Q0d ks x)=some (c,.val .bo true,[])/\c):Calls P f args w λe w'=>e=.returned (.bool true)/\Below w.heap.size w w':=by
 obtain⟨ρ,U,mB,x,k1,k2,k3,k4,k5⟩:=(View.emptyT w hT).args hk hv hA;obtain⟨c,h1,h2⟩:=hs x k5;exact k1.calls k3 (fb.true he (TN k4) h1 h2)
end
end Go.V
namespace Go.V
open Go
theorem EC {H:Type}{enc:TypeId×Value->H}{P:Program}{w:World}{b:Nat}{sp:Nat->Bool}{hd:Bool}:∀ {ts:List TypeId}{vs:List Value}{ds:List (DataW H)}{ps:List MemPlace},DataW.TrodAll enc P w b sp hd ts vs ds ps->ds.length=ts.length
 |[],[],[],_,_=>rfl
 |t::ts,v::vs,d::ds,ps,h=>by obtain⟨p,q,_,h2,_⟩:=h;simp[EC h2]
 |[],[],_::_,_,h|[],_::_,_,_,h|_::_,[],_,_,h|_::_,_::_,[],_,h=>h.elim
end Go.V
namespace Go.Proofs.Tryz
open Go Go.V
def J1t:List (Option FEnt):=[
 none,
 none,
 some (.code c2 [] 1),
 some (.code c3 [.tmp 6] 241),
 some (.code c4 [.cell 2 true 4] 8),
 some (.code c5 [.cell 2 true 2,.tmp 3] 54),
 some (.code c6 [.cell 2 true 2] 9),
 some (.code c7 [.cell 2 true 2] 10),
 some (.code c8 [.tmp 4,.tmp 5] 37),
 some (.code c9 [.tmp 6,.tmp 7] 38),
 some (.code c10 [.cell 2 true 4] 10),
 some (.code c11 [.cell 2 true 2,.tmp 3] 34),
 some (.code c12 [.tmp 4] 26),
 some (.code c13 [.tmp 4] 16),
 some (.code c14 [.cell 4 false 1,.tmp 5,.tmp 6] 44),
 some (.code c15 [.tmp 0] 46),
 some (.code c16 [.tmp 0] 52),
 some (.code c17 [.cell 2 true 2] 48),
 some (.code c18 [.cell 2 true 2] 51),
 some (.code c19 [.tmp 2] 6),
 some (.code c20 [.tmp 4] 10),
 some (.code c21 [.tmp 2] 6),
 some (.codeJ c22 [.tmp 6,.tmp 7,.tmp 8] 58),
 some (.code c23 [.tmp 4] 19),
 some (.codeJ c24 [.tmp 4,.tmp 5] 43),
 some (.code c25 [.cell 2 true 2] 9),
 some (.code c26 [.tmp 6] 18),
 some (.codeJ c27 [.tmp 4] 79),
 some (.code c28 [.cell 2 true 3,.tmp 3] 43),
 some (.code c29 [.tmp 4] 12),
 some (.code c30 [.tmp 2] 4),
 some (.code c31 [.tmp 4] 10),
 some (.code c32 [.tmp 4] 20),
 some (.code c33 [.tmp 3] 21),
 some (.code c34 [.tmp 6] 11),
 some (.code c35 [.tmp 2] 24),
 some (.code c36 [.tmp 4] 9),
 some (.code c37 [] 27),
 some (.code c38 [.tmp 4] 9),
 some (.codeJ c39 [.tmp 2,.tmp 3] 49),
 some (.code c40 [.tmp 4] 26),
 some (.code c41 [.cell 6 false 1,.cell 7 false 1,.cell 8 false 1] 35),
 some (.code c42 [.tmp 6] 11),
 some (.code c43 [.cell 2 true 3,.tmp 3] 30),
 some (.code c44 [.tmp 4] 26),
 some (.code c45 [.tmp 6] 15),
 some (.code c46 [.tmp 2] 27),
 some (.code c47 [.tmp 2] 28),
 some (.code c48 [.tmp 4] 22),
 some (.code c49 [.tmp 4] 21),
 some (.code c50 [.tmp 2] 8),
 some (.code c51 [.tmp 2] 8),
 some (.code c52 [] 9),
 some (.code c53 [.tmp 4] 12),
 some (.code c54 [.tmp 2] 8),
 some (.code c55 [.tmp 0] 3),
 some (.code c56 [.tmp 2] 5),
 some (.code c57 [] 14),
 some (.code c58 [] 16),
 some (.code c59 [.tmp 2] 6),
 some (.code c60 [.tmp 4] 9),
 some (.code c61 [.tmp 4] 13),
 some (.code c62 [.tmp 4] 19),
 some (.code c63 [] 96),
 some (.code c64 [.tmp 4] 26),
 some (.code c65 [.tmp 3] 19),
 some (.code c66 [.tmp 4] 25),
 some (.code c67 [.tmp 4] 6),
 some (.code c68 [.tmp 4] 13),
 some (.code c69 [.tmp 4] 16),
 some (.code c70 [.tmp 4] 13),
 some (.code c71 [.tmp 6] 11),
 some (.code c72 [.tmp 6] 11),
 some (.code c73 [.tmp 4] 17),
 some (.code c74 [.tmp 2] 4),
 some (.code c75 [.tmp 6] 17),
 some (.code c76 [.tmp 2] 14),
 some (.code c77 [.tmp 3] 9),
 some (.code c78 [.tmp 4] 80),
 some (.code c79 [.tmp 4] 9),
 some (.code c80 [] 63),
 some (.code c81 [] 18),
 some (.code c82 [] 36),
 some (.code c83 [] 34),
 some (.code c84 [] 35),
 some (.code c85 [] 11),
 some (.code c86 [.tmp 4] 13),
 some (.code c87 [] 148),
 some (.code c88 [.tmp 2] 8),
 some (.code c89 [.tmp 4] 19),
 some (.code c90 [.cell 6 false 1] 73),
 some (.code c91 [] 37),
 some (.code c92 [.tmp 3] 17),
 some (.code c93 [.tmp 4] 9),
 some (.code c94 [.tmp 2] 26),
 some (.code c95 [.tmp 4] 13),
 some (.code c96 [.tmp 4] 13),
 some (.code c97 [] 20),
 some (.code c98 [.tmp 4] 19),
 some (.code c99 [] 53),
 some (.code J1k [] 220),
 some (.code J16 [] 53),
 some (.code J2x [] 60),
 some (.code J2k [] 67),
 some (.code J1l [.tmp 8,.tmp 9] 63),
 some (.code J2d [] 34),
 some (.code J2j [.tmp 8] 141),
 some (.code J2q [.tmp 10] 90),
 some (.code J24 [.tmp 10,.tmp 11] 178),
 some (.code J0o [.tmp 2] 19),
 some (.code J0p [.tmp 2] 25),
 some (.code J25 [.tmp 4] 6),
 some (.code J15 [.tmp 4] 19),
 some (.code J0v [.tmp 2] 22),
 some .same,
 some (.code J22 [] 58),
 some (.code J2i [] 82),
 some (.code J2m [.tmp 2] 7),
 some (.code J2w [.tmp 2] 33),
 some (.code J2c [.tmp 8] 18),
 some (.code J2l [.tmp 12] 41),
 some (.code J2n [] 20),
 some (.code J1p [] 38),
 some (.code J2y [.tmp 10,.tmp 11] 32)]
def tab:Tab:=λf=>(J1t[f]?).join
theorem Z44:EntsOk Tryz.prog 0 J1t:=⟨trivial,trivial,J3e,fun3,J2t,J2h,J1q,J28,J2g,J0r,Z8u,Z8d,Z93,Z97,Z75,Z7z,Z9z,Z8y,Z76,Z6p,Z9u,Z6r,Z94,Z81,Z96,Z8l,Z8g,Z5c,Z6d,Z98,Z6s,Z9t,Z8z,Z82,Z7x,Z7q,Z7d,Z6q,Z99,J1h,J0h,J1f,Z88,Z86,J02,Z6y,Z8q,Z8m,Z9b,Z68,Z78,Z4j,J03,Z7g,Z9k,Z5r,Z7l,Z8e,Z9g,Z7t,Z6h,Z6w,Z7s,Z66,Z7v,Z7i,J1d,J1c,Z85,Z71,Z72,Z83,Z8n,Z8r,Z67,Z8c,Z8v,Z8b,Z9p,Z7n,Z6g,Z5g,Z59,Z51,Z4x,Z55,Z9w,Z6c,Z9n,Z91,J0m,J11,Z8o,Z9x,Z69,J01,Z6m,Z9i,Z77,Z8w,Z9l,Z3t,Z7y,Z80,Z7r,Z8a,Z7c,Z9f,Z7f,Z38,Z3u,Z9q,Z3r,Z3p,Q4e,Z6n,Z7j,Z74,Z6j,Z9v,Z8x,Z9s,Z89,Z9y,trivial⟩
theorem Z3v:TabOk Tryz.prog tab:=Z2x Z44
theorem Q31:Q09 tab 300 Dk [] c15 none (ET.of [] 46) CH.empty (Z3d false [.tmp 0] λv _=>isTrue v)=true:=by kernel_rfl
theorem Q2x {U:Heap}{K:Value->Heap->Prop}(hK:K (.bool true) U):VCalled Tryz.prog 15 [] U K:=Q59 mixed Z3v 300 Z7z (by decide) Q31 hK
end Go.Proofs.Tryz