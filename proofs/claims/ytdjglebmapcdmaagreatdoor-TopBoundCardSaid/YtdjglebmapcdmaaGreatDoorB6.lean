/- A framework for walks, contracts of functions, and their proofs: part 6. -/
import Derived.Test.YtdjglebmapcdmaaGreatDoorB5
set_option linter.unusedVariables false
set_option maxRecDepth 100000
namespace Go.Proofs.Tryz
open Go Go.V Go.Proofs
theorem Pz:FC:=EV λhk cs a st h=>by
 obtain⟨h1,h2⟩:=h;unfold KE;(try delta HD VH VF Hw Hq TS U1 U6);(try delta lI gD sT I64 Q2 pj8 pj4);intro vals;have e:∀ n a b:Int,(decide (n<a)||decide (b<n))=!inI n a b:=λn a b=>(nI n a b).symm;simp only[true_and,and_true,List.any_cons,List.any_nil,xN,e,Bool.not_not,zJ,List.length_nil];refine⟨λc=>⟨λ_=>?_,(λd=>by cases d)⟩,λc=>⟨λc2=>⟨λ_=>?_,(λd=>by cases d)⟩,λc2=>⟨?_,λc3=>⟨λ_=>?_,(λd=>by cases d)⟩,λc3=>⟨(λd=>by cases d),λ_=>?_⟩⟩⟩⟩
 .have hb:QG hk cs=3:=by unfold QG;rw[z2 c]
  exact Mu (by unfold Ja;rw[hb];rfl) (by omega)
 .have c2:=z7 c2;have hb:QG hk cs=5:=by unfold QG;rw[z0 (by rw[c];decide),z2 (by omega)]
  exact Mu (by unfold Ja;rw[hb];rfl) (by omega)
 .have c:=SN c;exact⟨c.1,c.2,by omega⟩
 .have c2:=z6 c2;have hb:=O4 c (by omega) c3;exact Mu (by unfold Ja;rw[hb];rfl) (by omega)
 .have c2:=z6 c2;obtain⟨hb,aK,av⟩:=Cq c (by omega) c3;have hc:=SN c;have br:=zt.2 aK;refine⟨by simp only[Q7];omega,by omega,λc4=>?_,λc4=>⟨λc5=>?_,λc5=>⟨by omega,λc6=>?_,λc6=>?_⟩⟩⟩
  .exact Mu (by unfold Ja;rw[hb,z0 (by omega),z2 c4]) (by omega)
  .have c5:=z7 c5;exact Mu (by unfold Ja;rw[hb,z0 (by omega),z0 (by rw[c4];decide),z2 (by omega)]) (by omega)
  .have c5:=z6 c5;exact Mu (by unfold Ja;rw[hb,z0 (by omega),z0 (by rw[c4];decide),z0 (by omega),z2 c6]) (by omega)
  .have c5:=z6 c5;have e0:Ja hk cs a st=0:=by unfold Ja;rw[hb,z0 (by omega),z0 (by rw[c4];decide),z0 (by omega),z0 (by rw[c6];decide)]
   have e1:Me hk cs a st=atK cs.length a st st.length:=by unfold Me;rw[z2 e0]
   have e2:H9 hk cs a st=F2 hk cs a st st.length:=by unfold H9;rw[z2 e0]
   have ha:=SN c4;have aY:∀ s∈st,0<=s/\s<=2:=λs hs=>by have:=xe.1 c6 s hs;exact SN (by simpa using this)
   rw[e0,e1,e2];refine⟨(),([],a,0),(by and_intros<;>first|rfl|trivial),?_⟩;refine⟨λd=>∃ k:Nat,d.2.2=k/\k<=st.length/\d.1=F2 hk cs a st k/\d.2.1=atK cs.length a st k,λd=>st.length-d.2.2.toNat,⟨0,rfl,by omega,rfl,rfl⟩,?_⟩;rintro⟨l,p,k'⟩ ⟨k,f1,f2,f3,f4⟩;dsimp only at f1 f3 f4 |-;subst f1 f3 f4;have a7:=Z46 (a:=a) (st:=st) br (by omega) (by omega) (λs hs=>(aY s hs).1) k;simp only[z4];refine⟨λg=>?_,λg=>?_⟩
   .have g:k<st.length:=by have:=z7 g;omega
    have hs:=aY (st.getD k 0) (by rw[Qg g];exact zh g);have hl:=Q0t hk cs a st k;refine⟨by omega,by omega,⟨hc.1,hc.2,a7.1,by omega,av⟩,by omega,⟨aK,h1,by omega,by omega,by omega,by omega⟩,by simp only[Q7];omega,(F2 hk cs a st (k+1),atK cs.length a st (k+1),(k:Int)+1),?_,⟨k+1,by simp,by omega,rfl,rfl⟩,by dsimp only;omega⟩;rw[Q7l];and_intros<;>first|rfl|trivial|simp
   .have g:k=st.length:=by have:=z6 g;omega
    subst g;exact(by and_intros<;>first|rfl|trivial|simp)
def GG:AL (Int):=(.one (.k (.i .i64)))
def Sj (d:Int):Prop:=True
def Ms (d:Int):SV:=.val .bo false
def MG (d:Int):List OB:=[]
def Uk:CSp:=XD GG Sj Ms MG
def WD (a:Int):Prop :=
 ((a != a)=false/\(True))
def GI:Cx:=⟨[],[],6,[],0,[],[],[],[],false,[],[],[],[]⟩
def L6 (a:Int):List (Nat×LoopAnn):=[]
theorem L2 (d:Int):gwp (GI) (L6 d) c56 0 (Wj [.tmp 2] (Ms d) (MG d)) (Qp 6 (AL.can GG d))=WD d:=by kernel_rfl
abbrev Lr:Prop:=OkC Tryz.prog 56 Uk
theorem LC (h:∀ (a:Int),(True)->WD a):OkC Tryz.prog 56 Uk :=
 Qs Z9v mixed (C:=GI) (V:=λ(d:Int)=>WD d) ⟨.nil,XsOk.nil,ItsOk.nil,YlOk.nil,IysOk.nil,XfOk.nil⟩ (L2) λd hp=>h d hp
theorem SZ:Lr:=LC λa _=>by unfold WD;(try delta lI gD sT I64 Q2 pj8 pj4);simp
def Nb:AL (Int×Int):=(.cons (.k (.i .i64)) (.one (.k (.i .i64))))
def Te (d:Int×Int):Prop:=True
def Ux (d:Int×Int):SV:=.val (.i .i64) (Q3d d.1 d.2)
def Ui (d:Int×Int):List OB:=[]
def Kp:CSp:=XD Nb Te Ux Ui
def Xv (a:Int) (b:Int):Prop :=
 (True)/\(True)/\(false=true ->
  (false=true ->
   ((0:Int)=(Q3d a b)/\(True))) /\
  (false=false ->
   ((-1:Int)=(Q3d a b)/\(True)))) /\
 (false=false ->
  (false=true ->
   ((1:Int)=(Q3d a b)/\(True))) /\
  (false=false ->
   ((decide (a<b))=true ->
    ((-1:Int)=(Q3d a b)/\(True))) /\
   ((decide (a<b))=false ->
    ((decide (a > b))=true ->
     ((1:Int)=(Q3d a b)/\(True))) /\
    ((decide (a > b))=false ->
     ((0:Int)=(Q3d a b)/\(True))))))
def Ns:Cx:=⟨[],[(56,Uk)],20,[],0,[],[],[],[],false,[],[],[],[]⟩
def TQ (a:Int) (b:Int):List (Nat×LoopAnn):=[]
theorem Rs (d:Int×Int):gwp (Ns) (TQ d.1 d.2) c32 0 (Wj [.tmp 4] (Ux d) (Ui d)) (Qp 20 (AL.can Nb d))=Xv d.1 d.2:=by kernel_rfl
abbrev Tx:Prop:=OkC Tryz.prog 32 Kp
theorem TU (h:∀ (a:Int) (b:Int),(True)->Xv a b):OkC Tryz.prog 32 Kp :=
 Qs Z8q mixed (C:=Ns) (V:=λ(d:Int×Int)=>Xv d.1 d.2) ⟨(.cons SZ .nil),XsOk.nil,ItsOk.nil,YlOk.nil,IysOk.nil,XfOk.nil⟩ (Rs) λd hp=>h d.1 d.2 hp
theorem RA:Tx:=TU λa b _=>by
 unfold Xv;(try delta lI gD sT I64 Q2 pj8 pj4);simp only[ze,zG,true_and,and_true,eq_self_iff_true,exists_eq_left',exists_const,ze,zG,zD,bne_iff_ne,ne_eq,zW,bne_eq_false_iff_eq,Bool.not_eq_true',zH,z_,xH,z4,Int.ofNat_lt,gt_iff_lt,ge_iff_le,forall_eq,true_implies,false_implies,zk,Bool.or_self,Bool.and_self,xN,Bool.false_or,Bool.or_true,Bool.true_or,Bool.and_false,Bool.false_and,xM,Bool.true_and,xT,Bool.not_false,implies_true,forall_const,decide_false,decide_true,not_false_eq_true,not_true_eq_false];unfold Q3d;refine⟨λh=>?_,λh=>⟨λh2=>?_,λh2=>?_⟩⟩
 .rw[z2 h]
 .rw[z0 h,z2 h2]
 .rw[z0 h,z0 h2]
def BJ:AL ((Int×Int×Bool)×Int×Int×Bool):=(.cons (.agg (.cons (.k (.i .i64)) (.cons (.k (.i .i64)) (.one (.k .bo))))) (.one (.agg (.cons (.k (.i .i64)) (.cons (.k (.i .i64)) (.one (.k .bo)))))))
def L0 (d:(Int×Int×Bool)×Int×Int×Bool):Prop:=True
def GN (d:(Int×Int×Bool)×Int×Int×Bool):SV:=.val (.i .i64) (Q3d d.1.1 d.2.1)
def GR (d:(Int×Int×Bool)×Int×Int×Bool):List OB:=[]
def KA:CSp:=XD BJ L0 GN GR
def Yn (cn:Int) (cr:Int) (ct:Bool) (dn:Int) (dr:Int) (dt:Bool):Prop :=
 (True)/\((Q3d cn dn)=(Q3d cn dn)/\(True))
def Hl:Cx:=⟨[],[(32,Kp)],10,[],0,[],[],[],[],false,[],[],[],[]⟩
def AE (cn:Int) (cr:Int) (ct:Bool) (dn:Int) (dr:Int) (dt:Bool):List (Nat×LoopAnn):=[]
theorem Cz (d:(Int×Int×Bool)×Int×Int×Bool):gwp (Hl) (AE d.1.1 d.1.2.1 d.1.2.2 d.2.1 d.2.2.1 d.2.2.2) c31 0 (Wj [.tmp 4] (GN d) (GR d)) (Qp 10 (AL.can BJ d))=Yn d.1.1 d.1.2.1 d.1.2.2 d.2.1 d.2.2.1 d.2.2.2:=by kernel_rfl
abbrev AS:Prop:=OkC Tryz.prog 31 KA
theorem C_ (h:∀ (cn:Int) (cr:Int) (ct:Bool) (dn:Int) (dr:Int) (dt:Bool),(True)->Yn cn cr ct dn dr dt):OkC Tryz.prog 31 KA :=
 Qs Z9i mixed (C:=Hl) (V:=λ(d:(Int×Int×Bool)×Int×Int×Bool)=>Yn d.1.1 d.1.2.1 d.1.2.2 d.2.1 d.2.2.1 d.2.2.2) ⟨(.cons RA .nil),XsOk.nil,ItsOk.nil,YlOk.nil,IysOk.nil,XfOk.nil⟩ (Cz) λd hp=>h d.1.1 d.1.2.1 d.1.2.2 d.2.1 d.2.2.1 d.2.2.2 hp
theorem Bc:AS:=C_ λcn cr ct dn dr dt _=>by unfold Yn;exact(by and_intros<;>first|rfl|trivial|simp)
def Nu:AL (Int):=(.one (.k (.i .u32)))
def T0 (d:Int):Prop:=False
def UC (d:Int):SV:=.val (.i .i64) (I1 d)
def UE (d:Int):List OB:=[]
def Kr:CSp:=XD Nu T0 UC UE
def YP (x:Int):Prop :=
 ((decide (x>=(65536:Int)))=true ->
  (0<=(16:Int))/\((decide ((Zg .u32 x (16:Int))>=(256:Int)))=true ->
   (0<=(8:Int))/\(I64 ((16:Int)+(8:Int)))/\(InK .u8 (Zg .u32 (Zg .u32 x (16:Int)) (8:Int)))/\(0<=(Zg .u32 (Zg .u32 x (16:Int)) (8:Int)))/\((Zg .u32 (Zg .u32 x (16:Int)) (8:Int))<(List.length len8T))/\(I64 ((UInt8.toNat (gD len8T (Zg .u32 (Zg .u32 x (16:Int)) (8:Int)) 0):Nat):Int))/\(I64 (((16:Int)+(8:Int))+((UInt8.toNat (gD len8T (Zg .u32 (Zg .u32 x (16:Int)) (8:Int)) 0):Nat):Int)))/\((((16:Int)+(8:Int))+((UInt8.toNat (gD len8T (Zg .u32 (Zg .u32 x (16:Int)) (8:Int)) 0):Nat):Int))=(I1 x)/\(True))) /\
  ((decide ((Zg .u32 x (16:Int))>=(256:Int)))=false ->
   (InK .u8 (Zg .u32 x (16:Int)))/\(0<=(Zg .u32 x (16:Int)))/\((Zg .u32 x (16:Int))<(List.length len8T))/\(I64 ((UInt8.toNat (gD len8T (Zg .u32 x (16:Int)) 0):Nat):Int))/\(I64 ((16:Int)+((UInt8.toNat (gD len8T (Zg .u32 x (16:Int)) 0):Nat):Int)))/\(((16:Int)+((UInt8.toNat (gD len8T (Zg .u32 x (16:Int)) 0):Nat):Int))=(I1 x)/\(True)))) /\
 ((decide (x>=(65536:Int)))=false ->
  ((decide (x>=(256:Int)))=true ->
   (0<=(8:Int))/\(I64 ((0:Int)+(8:Int)))/\(InK .u8 (Zg .u32 x (8:Int)))/\(0<=(Zg .u32 x (8:Int)))/\((Zg .u32 x (8:Int))<(List.length len8T))/\(I64 ((UInt8.toNat (gD len8T (Zg .u32 x (8:Int)) 0):Nat):Int))/\(I64 (((0:Int)+(8:Int))+((UInt8.toNat (gD len8T (Zg .u32 x (8:Int)) 0):Nat):Int)))/\((((0:Int)+(8:Int))+((UInt8.toNat (gD len8T (Zg .u32 x (8:Int)) 0):Nat):Int))=(I1 x)/\(True))) /\
  ((decide (x>=(256:Int)))=false ->
   (InK .u8 x)/\(0<=x)/\(x<(List.length len8T))/\(I64 ((UInt8.toNat (gD len8T x 0):Nat):Int))/\(I64 ((0:Int)+((UInt8.toNat (gD len8T x 0):Nat):Int)))/\(((0:Int)+((UInt8.toNat (gD len8T x 0):Nat):Int))=(I1 x)/\(True))))
def Nj:Cx:=⟨[],[],19,[],0,[],[],[],[],false,[],[],[],[]⟩
def Tw (x:Int):List (Nat×LoopAnn):=[]
theorem TV (d:Int):gwp (Nj) (Tw d) c94 0 (Wj [.tmp 2] (UC d) (UE d)) (Qp 19 (AL.can Nu d))=YP d:=by kernel_rfl
abbrev Rx:Prop:=OkC Tryz.prog 94 Kr
theorem Tz (h:∀ (x:Int),(False)->YP x):OkC Tryz.prog 94 Kr :=
 Qs Z97 mixed (C:=Nj) (V:=λ(d:Int)=>YP d) ⟨.nil,XsOk.nil,ItsOk.nil,YlOk.nil,IysOk.nil,XfOk.nil⟩ (TV) λd hp=>h d hp
theorem TE:Rx:=Tz λx h=>h.elim
def Ny:AL (Int):=(.one (.k (.i .u64)))
def Td (d:Int):Prop:=0<=d/\d<=255
def UU (d:Int):SV:=.val (.i .i64) (I1 d)
def UK (d:Int):List OB:=[]
def Kh:CSp:=XD Ny Td UU UK
abbrev Yg (x:Int):=(Zg .u64 (Zg .u64 x (32:Int)) (16:Int))
abbrev Tv (x:Int):=(Zg .u64 (Zg .u64 x (32:Int)) (8:Int))
abbrev Re (x:Int):=(Zg .u64 (Zg .u64 x (16:Int)) (8:Int))
abbrev LF (x:Int):=((UInt8.toNat (gD len8T (Zg .u64 (Yg x) (8:Int)) 0):Nat):Int)
abbrev LY (x:Int):=((UInt8.toNat (gD len8T (Zg .u64 x (32:Int)) 0):Nat):Int)
abbrev LJ (x:Int):=((UInt8.toNat (gD len8T (Zg .u64 x (16:Int)) 0):Nat):Int)
abbrev L_ (x:Int):=((UInt8.toNat (gD len8T (Zg .u64 x (8:Int)) 0):Nat):Int)
abbrev C7 :=(((32:Int)+(16:Int))+(8:Int))
abbrev C3 :=(((0:Int)+(16:Int))+(8:Int))
abbrev LL (x:Int):=((UInt8.toNat (gD len8T (Yg x) 0):Nat):Int)
abbrev Rv (x:Int):=((UInt8.toNat (gD len8T (Tv x) 0):Nat):Int)
abbrev Tm (x:Int):=((UInt8.toNat (gD len8T (Re x) 0):Nat):Int)
def Xw (x:Int):Prop :=
 ((decide (x>=(4294967296:Int)))=true ->
  (0<=(32:Int))/\((decide ((Zg .u64 x (32:Int))>=(65536:Int)))=true ->
   (0<=(16:Int))/\(I64 ((32:Int)+(16:Int)))/\((decide ((Yg x)>=(256:Int)))=true ->
    (0<=(8:Int))/\(I64 C7)/\(InK .u8 (Zg .u64 (Yg x) (8:Int)))/\(0<=(Zg .u64 (Yg x) (8:Int)))/\((Zg .u64 (Yg x) (8:Int))<(List.length len8T))/\(I64 (LF x))/\(I64 (C7+(LF x)))/\((C7+(LF x))=(I1 x)/\(True))) /\
   ((decide ((Yg x)>=(256:Int)))=false ->
    (InK .u8 (Yg x))/\(0<=(Yg x))/\((Yg x)<(List.length len8T))/\(I64 (LL x))/\(I64 (((32:Int)+(16:Int))+(LL x)))/\((((32:Int)+(16:Int))+(LL x))=(I1 x)/\(True)))) /\
  ((decide ((Zg .u64 x (32:Int))>=(65536:Int)))=false ->
   ((decide ((Zg .u64 x (32:Int))>=(256:Int)))=true ->
    (0<=(8:Int))/\(I64 ((32:Int)+(8:Int)))/\(InK .u8 (Tv x))/\(0<=(Tv x))/\((Tv x)<(List.length len8T))/\(I64 (Rv x))/\(I64 (((32:Int)+(8:Int))+(Rv x)))/\((((32:Int)+(8:Int))+(Rv x))=(I1 x)/\(True))) /\
   ((decide ((Zg .u64 x (32:Int))>=(256:Int)))=false ->
    (InK .u8 (Zg .u64 x (32:Int)))/\(0<=(Zg .u64 x (32:Int)))/\((Zg .u64 x (32:Int))<(List.length len8T))/\(I64 (LY x))/\(I64 ((32:Int)+(LY x)))/\(((32:Int)+(LY x))=(I1 x)/\(True))))) /\
 ((decide (x>=(4294967296:Int)))=false ->
  ((decide (x>=(65536:Int)))=true ->
   (0<=(16:Int))/\(I64 ((0:Int)+(16:Int)))/\((decide ((Zg .u64 x (16:Int))>=(256:Int)))=true ->
    (0<=(8:Int))/\(I64 C3)/\(InK .u8 (Re x))/\(0<=(Re x))/\((Re x)<(List.length len8T))/\(I64 (Tm x))/\(I64 (C3+(Tm x)))/\((C3+(Tm x))=(I1 x)/\(True))) /\
   ((decide ((Zg .u64 x (16:Int))>=(256:Int)))=false ->
    (InK .u8 (Zg .u64 x (16:Int)))/\(0<=(Zg .u64 x (16:Int)))/\((Zg .u64 x (16:Int))<(List.length len8T))/\(I64 (LJ x))/\(I64 (((0:Int)+(16:Int))+(LJ x)))/\((((0:Int)+(16:Int))+(LJ x))=(I1 x)/\(True)))) /\
  ((decide (x>=(65536:Int)))=false ->
   ((decide (x>=(256:Int)))=true ->
    (0<=(8:Int))/\(I64 ((0:Int)+(8:Int)))/\(InK .u8 (Zg .u64 x (8:Int)))/\(0<=(Zg .u64 x (8:Int)))/\((Zg .u64 x (8:Int))<(List.length len8T))/\(I64 (L_ x))/\(I64 (((0:Int)+(8:Int))+(L_ x)))/\((((0:Int)+(8:Int))+(L_ x))=(I1 x)/\(True))) /\
   ((decide (x>=(256:Int)))=false ->
    (InK .u8 x)/\(0<=x)/\(x<(List.length len8T))/\(I64 ((UInt8.toNat (gD len8T x 0):Nat):Int))/\(I64 ((0:Int)+((UInt8.toNat (gD len8T x 0):Nat):Int)))/\(((0:Int)+((UInt8.toNat (gD len8T x 0):Nat):Int))=(I1 x)/\(True)))))
def Nh:Cx:=⟨[],[],25,[],0,[],[],[],[],false,[],[],[],[]⟩
def R2 (x:Int):List (Nat×LoopAnn):=[]
theorem Rq (d:Int):gwp (Nh) (R2 d) c95 0 (Wj [.tmp 2] (UU d) (UK d)) (Qp 25 (AL.can Ny d))=Xw d:=by kernel_rfl
abbrev Rn:Prop:=OkC Tryz.prog 95 Kh
theorem Ty (h:∀ (x:Int),(0<=x/\x<=255)->Xw x):OkC Tryz.prog 95 Kh :=
 Qs Z99 mixed (C:=Nh) (V:=λ(d:Int)=>Xw d) ⟨.nil,XsOk.nil,ItsOk.nil,YlOk.nil,IysOk.nil,XfOk.nil⟩ (Rq) λd hp=>h d hp
theorem Rh:Rn:=Ty λx h=>by
 obtain⟨h1,h2⟩:=h;unfold Xw;(try delta Yg Tv Re LF LY LJ L_ C7 C3 LL Rv Tm);(try delta lI gD sT I64 Q2 pj8 pj4);have aj:(UInt8.toNat (List.getD len8T (Int.toNat x) 0):Int)<=255:=by have:=(List.getD len8T (Int.toNat x) 0).toNat_lt;omega
 refine⟨λc=>by simp at c;omega,λ_=>⟨λc=>by simp at c;omega,λ_=>⟨λc=>by simp at c;omega,λ_=>?_⟩⟩⟩;have hl:len8T.length=256:=by decide +kernel
 rw[hl];simp only[Z0j,Q7];refine⟨by omega,h1,by omega,by omega,by omega,?_⟩;unfold I1;rw[Int.zero_add];exact(by and_intros<;>first|rfl|trivial|simp)
def GS:AL (Int):=(.one (.k (.i .u64)))
def RV (d:Int):Prop:=0<=d/\d<=255
def M4 (d:Int):SV:=.val (.i .i64) (I1 d)
def MF (d:Int):List OB:=[]
def UN:CSp:=XD GS RV M4 MF
def WH (x:Int):Prop :=
 (false=true ->
  (InK .u32 x)/\(False)/\((I1 x)=(I1 x)/\(True))) /\
 (false=false ->
  (0<=x/\x<=255)/\((I1 x)=(I1 x)/\(True)))
def GY:Cx:=⟨[],[(94,Kr),(95,Kh)],8,[],0,[],[],[],[],false,[],[],[],[]⟩
def Lh (x:Int):List (Nat×LoopAnn):=[]
theorem SX (d:Int):gwp (GY) (Lh d) c77 0 (Wj [.tmp 2] (M4 d) (MF d)) (Qp 8 (AL.can GS d))=WH d:=by kernel_rfl
abbrev Lg:Prop:=OkC Tryz.prog 77 UN
theorem Lf (h:∀ (x:Int),(0<=x/\x<=255)->WH x):OkC Tryz.prog 77 UN :=
 Qs J0m mixed (C:=GY) (V:=λ(d:Int)=>WH d) ⟨(.cons TE (.cons Rh .nil)),XsOk.nil,ItsOk.nil,YlOk.nil,IysOk.nil,XfOk.nil⟩ (SX) λd hp=>h d hp
theorem Lt:Lg:=Lf λx h=>by unfold WH;(try delta lI gD sT I64 Q2 pj8 pj4);exact⟨(λc=>by cases c),λ_=>⟨h,(by and_intros<;>first|rfl|trivial|simp)⟩⟩
def Zj:AL (Int×Int×(((Int×Int×Bool)×(Int×Int×Bool)->Prop)×((Int×Int×Bool)×(Int×Int×Bool)->Int))):=(.cons (.k (.i .i64)) (.cons (.k (.i .i64)) (.one (.fn [(.pair (.i .i64) (.pair (.i .i64) .bo)),(.pair (.i .i64) (.pair (.i .i64) .bo))] (.i .i64)))))
def JQ (xs:List (Int×Int×Bool)) (nl:Bool) (d:Int×Int×(((Int×Int×Bool)×(Int×Int×Bool)->Prop)×((Int×Int×Bool)×(Int×Int×Bool)->Int))):Prop:=0<=d.1/\d.1<=d.2.1/\d.2.1<=xs.length/\xs.length<=12/\(∀ x∈xs,∀ y∈xs,d.2.2.1 (x,y))
def Zd (xs:List (Int×Int×Bool)) (nl:Bool) (d:Int×Int×(((Int×Int×Bool)×(Int×Int×Bool)->Prop)×((Int×Int×Bool)×(Int×Int×Bool)->Int))):SV:=.tup []
def Z8 (xs:List (Int×Int×Bool)) (nl:Bool) (d:Int×Int×(((Int×Int×Bool)×(Int×Int×Bool)->Prop)×((Int×Int×Bool)×(Int×Int×Bool)->Int))):List (Int×Int×Bool):=(AU d.2.2.2 xs d.1.toNat d.2.1.toNat)
def QE:XSp:=Q7a (gap [] 3) (Q88 69 (.pair (.i .i64) (.pair (.i .i64) .bo)) Zj JQ Zd Z8)
def Qo (xs:List (Int×Int×Bool)) (nl:Bool) (a:Int) (b:Int) (p:((Int×Int×Bool)×(Int×Int×Bool)->Prop)×((Int×Int×Bool)×(Int×Int×Bool)->Int)):Prop:=∀ vals:List Value,
 (I64 (a+(1:Int)))/\∃ (e2:Unit) (d20:(List (Int×Int×Bool))×Bool×Int),((True/\a=a/\b=b/\(SV.pf [(.pair (.i .i64) (.pair (.i .i64) .bo)),(.pair (.i .i64) (.pair (.i .i64) .bo))] (.i .i64) p.1 p.2=SV.pf [(.pair (.i .i64) (.pair (.i .i64) .bo)),(.pair (.i .i64) (.pair (.i .i64) .bo))] (.i .i64) p.1 p.2)/\(a+(1:Int))=d20.2.2/\True)/\((xs=d20.1/\nl=d20.2.1)/\(vals=vals/\(True/\(([]:List SV)=[])))/\True)) /\
 LoopP (λ(d2:(List (Int×Int×Bool))×Bool×Int) (q2:((List (Int×Int×Bool))×Bool×Int)->Prop) =>
  ((decide (d2.2.2<b))=true ->
   ∃ (e5:Bool×Int) (d50:(List (Int×Int×Bool))×Int),((True/\a=a/\b=b/\(SV.pf [(.pair (.i .i64) (.pair (.i .i64) .bo)),(.pair (.i .i64) (.pair (.i .i64) .bo))] (.i .i64) p.1 p.2=SV.pf [(.pair (.i .i64) (.pair (.i .i64) .bo)),(.pair (.i .i64) (.pair (.i .i64) .bo))] (.i .i64) p.1 p.2)/\d2.2.2=e5.2/\d2.2.2=d50.2/\True)/\((d2.1=d50.1/\d2.2.1=e5.1)/\(vals=vals/\(True/\(([]:List SV)=[])))/\True)) /\
   LoopP (λ(d5:(List (Int×Int×Bool))×Int) (q5:((List (Int×Int×Bool))×Int)->Prop) =>
    ((decide (d5.2 > a))=true->0<=d5.2)/\((decide (d5.2 > a))=true->d5.2<(List.length d5.1))/\((decide (d5.2 > a))=true->InK .i64 (d5.2-(1:Int)))/\((decide (d5.2 > a))=true->0<=(d5.2-(1:Int)))/\((decide (d5.2 > a))=true->(d5.2-(1:Int))<(List.length d5.1))/\((decide (d5.2 > a))=true->p.1 (((gD d5.1 d5.2 (0,(0,false))).1,((gD d5.1 d5.2 (0,(0,false))).2.1,(gD d5.1 d5.2 (0,(0,false))).2.2)),((gD d5.1 (d5.2-(1:Int)) (0,(0,false))).1,((gD d5.1 (d5.2-(1:Int)) (0,(0,false))).2.1,(gD d5.1 (d5.2-(1:Int)) (0,(0,false))).2.2))))/\(((decide (d5.2 > a))&&(decide ((p.2 (((gD d5.1 d5.2 (0,(0,false))).1,((gD d5.1 d5.2 (0,(0,false))).2.1,(gD d5.1 d5.2 (0,(0,false))).2.2)),((gD d5.1 (d5.2-(1:Int)) (0,(0,false))).1,((gD d5.1 (d5.2-(1:Int)) (0,(0,false))).2.1,(gD d5.1 (d5.2-(1:Int)) (0,(0,false))).2.2))))<(0:Int))))=true ->
     (I64 (d5.2-(1:Int)))/\(I64 (d5.2-(1:Int)))/\(0<=(d5.2-(1:Int)))/\((d5.2-(1:Int))<(List.length d5.1))/\(0<=d5.2)/\(d5.2<(List.length d5.1))/\(0<=d5.2)/\(d5.2<(List.length d5.1))/\(0<=(d5.2-(1:Int)))/\((d5.2-(1:Int))<(List.length (sT d5.1 d5.2 ((gD d5.1 (d5.2-(1:Int)) (0,(0,false))).1,((gD d5.1 (d5.2-(1:Int)) (0,(0,false))).2.1,(gD d5.1 (d5.2-(1:Int)) (0,(0,false))).2.2)))))/\(I64 (d5.2-(1:Int)))/\(∃ d6:(List (Int×Int×Bool))×Int,((True/\a=a/\b=b/\(SV.pf [(.pair (.i .i64) (.pair (.i .i64) .bo)),(.pair (.i .i64) (.pair (.i .i64) .bo))] (.i .i64) p.1 p.2=SV.pf [(.pair (.i .i64) (.pair (.i .i64) .bo)),(.pair (.i .i64) (.pair (.i .i64) .bo))] (.i .i64) p.1 p.2)/\e5.2=e5.2/\(d5.2-(1:Int))=d6.2/\True)/\(((sT (sT d5.1 d5.2 ((gD d5.1 (d5.2-(1:Int)) (0,(0,false))).1,((gD d5.1 (d5.2-(1:Int)) (0,(0,false))).2.1,(gD d5.1 (d5.2-(1:Int)) (0,(0,false))).2.2))) (d5.2-(1:Int)) ((gD d5.1 d5.2 (0,(0,false))).1,((gD d5.1 d5.2 (0,(0,false))).2.1,(gD d5.1 d5.2 (0,(0,false))).2.2)))=d6.1/\e5.1=e5.1)/\(vals=vals/\(True/\(([]:List SV)=[])))/\True))/\q5 d6)) /\
    (((decide (d5.2 > a))&&(decide ((p.2 (((gD d5.1 d5.2 (0,(0,false))).1,((gD d5.1 d5.2 (0,(0,false))).2.1,(gD d5.1 d5.2 (0,(0,false))).2.2)),((gD d5.1 (d5.2-(1:Int)) (0,(0,false))).1,((gD d5.1 (d5.2-(1:Int)) (0,(0,false))).2.1,(gD d5.1 (d5.2-(1:Int)) (0,(0,false))).2.2))))<(0:Int))))=false ->
     (I64 (e5.2+(1:Int)))/\(∃ d7:(List (Int×Int×Bool))×Bool×Int,((True/\a=a/\b=b/\(SV.pf [(.pair (.i .i64) (.pair (.i .i64) .bo)),(.pair (.i .i64) (.pair (.i .i64) .bo))] (.i .i64) p.1 p.2=SV.pf [(.pair (.i .i64) (.pair (.i .i64) .bo)),(.pair (.i .i64) (.pair (.i .i64) .bo))] (.i .i64) p.1 p.2)/\(e5.2+(1:Int))=d7.2.2/\True)/\((d5.1=d7.1/\e5.1=d7.2.1)/\(vals=vals/\(True/\(([]:List SV)=[])))/\True))/\q2 d7))) d50) /\
  ((decide (d2.2.2<b))=false ->
   (vals=vals/\(True/\(([]:List SV)=[]))/\((([]:List SV)=[]))/\(d2.1=(AU p.2 xs a.toNat b.toNat)/\d2.2.1=nl)))) d20
def Zh:Cx:=⟨[],[],53,[],0,[],[],[],[],false,[],[],[],[]⟩
def Zi (xs:List (Int×Int×Bool)) (nl:Bool) (a:Int) (b:Int) (p:((Int×Int×Bool)×(Int×Int×Bool)->Prop)×((Int×Int×Bool)×(Int×Int×Bool)->Int)) (vals:List Value):List (Nat×LoopAnn):=[(0,⟨Unit,(List (Int×Int×Bool))×Bool×Int,[0,1,2,3,8],λe x=>[.lst 0,.val (.i .i64) a,.val (.i .i64) b,.pf [(.pair (.i .i64) (.pair (.i .i64) .bo)),(.pair (.i .i64) (.pair (.i .i64) .bo))] (.i .i64) p.1 p.2,.val (.i .i64) x.2.2],λe x=>[(0,.slot 0,.lst 69 (.pair (.i .i64) (.pair (.i .i64) .bo)) x.1 x.2.1),(4000000,.key 4000000,.stk [.lst 0] vals)]⟩),
 (2,⟨Bool×Int,(List (Int×Int×Bool))×Int,[0,1,2,3,8,9],λe x=>[.lst 0,.val (.i .i64) a,.val (.i .i64) b,.pf [(.pair (.i .i64) (.pair (.i .i64) .bo)),(.pair (.i .i64) (.pair (.i .i64) .bo))] (.i .i64) p.1 p.2,.val (.i .i64) e.2,.val (.i .i64) x.2],λe x=>[(0,.slot 0,.lst 69 (.pair (.i .i64) (.pair (.i .i64) .bo)) x.1 e.1),(4000000,.key 4000000,.stk [.lst 0] vals)]⟩)]
theorem JX (xs:List (Int×Int×Bool)) (nl:Bool) (d:Int×Int×(((Int×Int×Bool)×(Int×Int×Bool)->Prop)×((Int×Int×Bool)×(Int×Int×Bool)->Int))):(∀ vals,gwp Zh (Zi xs nl d.1 d.2.1 d.2.2 vals) c86 0 (Q93 vals [] (Zd xs nl d) (.lst 69 (.pair (.i .i64) (.pair (.i .i64) .bo)) (Z8 xs nl d) nl) (.lst 0)) (BM 53 (.lst 0) (.lst 69 (.pair (.i .i64) (.pair (.i .i64) .bo)) xs nl) vals (AL.can Zj d)))=Qo xs nl d.1 d.2.1 d.2.2:=by kernel_rfl
abbrev JW:Prop:=XOk Tryz.prog 86 QE
theorem JU (h:∀ (xs:List (Int×Int×Bool)) (nl:Bool) (a:Int) (b:Int) (p:((Int×Int×Bool)×(Int×Int×Bool)->Prop)×((Int×Int×Bool)×(Int×Int×Bool)->Int)),(0<=a/\a<=b/\b<=xs.length/\xs.length<=12/\(∀ x∈xs,∀ y∈xs,p.1 (x,y)))->Qo xs nl a b p):XOk Tryz.prog 86 QE :=
 IP Z8x mixed (Ir .nil 3) (C:=Zh) ⟨.nil,XsOk.nil,ItsOk.nil,YlOk.nil,IysOk.nil,XfOk.nil⟩ (L:=λxs nl (d:Int×Int×(((Int×Int×Bool)×(Int×Int×Bool)->Prop)×((Int×Int×Bool)×(Int×Int×Bool)->Int))) vals=>Zi xs nl d.1 d.2.1 d.2.2 vals) (V:=λxs nl (d:Int×Int×(((Int×Int×Bool)×(Int×Int×Bool)->Prop)×((Int×Int×Bool)×(Int×Int×Bool)->Int)))=>Qo xs nl d.1 d.2.1 d.2.2) JX λxs nl d hp=>h xs nl d.1 d.2.1 d.2.2 hp
theorem JM:JW:=JU λxs nl a b p h=>by
 obtain⟨h1,h2,h3,h4,h5⟩:=h;unfold Qo;(try delta lI gD sT I64 Q2 pj8 pj4);intro vals;have hI:∀ e:Int,-1000<=e->e<=1000->InK .i64 e:=λe _ _=>by simp only[Q7];omega
 obtain⟨a,rfl⟩:∃ n:Nat,a=n:=⟨a.toNat,by omega⟩;obtain⟨b,rfl⟩:∃ n:Nat,b=n:=⟨b.toNat,by omega⟩;simp only[z4];refine⟨hI _ (by omega) (by omega),(),(xs,nl,(a:Int)+1),(by and_intros<;>first|rfl|trivial|simp),?_⟩;refine⟨λd=>∃ n:Nat,d.2.2=(a:Int)+1+n/\(n=0\/a+1+n<=b)/\nl=d.2.1/\d.1=Z12 (λx y=>decide (p.2 (x,y)<0)) a n xs,λd=>(1000-d.2.2).toNat,⟨0,by simp,.inl rfl,rfl,rfl⟩,?_⟩;rintro⟨ys,jL,i⟩ ⟨n,e1,e2,e3,e4⟩;dsimp only at e1 e2 e3 e4 |-;subst e1 e3;refine⟨λc=>?_,λc=>?_⟩
 .have c:a+1+n<b:=by simp at c;omega
  have hp:ys.Perm xs:=by rw[e4];exact R4 _ (by omega)
  have hlen:=hp.length_eq;refine⟨(nl,(a:Int)+1+n),(ys,(a:Int)+1+n),(by and_intros<;>first|rfl|trivial|simp),?_⟩;dsimp only;refine⟨λd=>∃ j:Nat,d.2=j/\j<=a+1+n/\d.1.Perm xs/\Q2n (λx y=>decide (p.2 (x,y)<0)) a j d.1=Z12 (λx y=>decide (p.2 (x,y)<0)) a (n+1) xs,λd=>d.2.toNat,⟨a+1+n,by simp,z5 _,hp,by rw[e4];rfl⟩,?_⟩;rintro⟨zs,j'⟩ ⟨j,f1,f2,f3,f4⟩;dsimp only at f1 f3 f4 |-;subst f1;have wh:=f3.length_eq;have uP:((j:Int)-1).toNat=j-1:=by omega
  simp only[z4,uP];refine⟨λg=>by omega,λg=>by omega,λg=>hI _ (by omega) (by omega),λg=>by simp at g;omega,λg=>by omega,λg=>by rw[Qg (show j<zs.length by omega),Qg (show j-1<zs.length by omega)];exact h5 _ (f3.mem_iff.1 (zh _)) _ (f3.mem_iff.1 (zh _)),λg=>?_,λg=>?_⟩
  .have g:a<j/\p.2 (zs.getD j (0,(0,false)),zs.getD (j-1) (0,(0,false)))<0:=by simpa using g
   refine⟨hI _ (by omega) (by omega),hI _ (by omega) (by omega),by omega,by omega,by omega,by omega,by omega,by omega,by omega,by rw[xc];omega,hI _ (by omega) (by omega),((zs.set j (zs.getD (j-1) (0,(0,false)))).set (j-1) (zs.getD j (0,(0,false))),(j:Int)-1),(by and_intros<;>first|rfl|trivial|simp),⟨j-1,by omega,by omega,(Q6b (by omega) (by omega)).trans f3,Z37 f4 g.1 g.2⟩,by dsimp only;omega⟩
  .refine⟨hI _ (by omega) (by omega),(zs,nl,(a:Int)+1+n+1),(by and_intros<;>first|rfl|trivial|simp),⟨n+1,by simp;omega,by omega,rfl,Z5q f4 λhh=>?_⟩,by dsimp only;omega⟩;have h7:p.2 (zs.getD j (0,(0,false)),zs.getD (j-1) (0,(0,false)))<0:=hh.2;have h8:a<j:=hh.1;rw[zL (show (j:Int) > a by omega),zL h7] at g;cases g
 .have hn:n=b-a-1:=by simp at c;omega
  rw[e4,hn];exact(by and_intros<;>first|rfl|trivial|simp)
def ZI:AL (Int×Int×Int×(((Int×Int×Bool)×(Int×Int×Bool)->Prop)×((Int×Int×Bool)×(Int×Int×Bool)->Int))):=(.cons (.k (.i .i64)) (.cons (.k (.i .i64)) (.cons (.k (.i .i64)) (.one (.fn [(.pair (.i .i64) (.pair (.i .i64) .bo)),(.pair (.i .i64) (.pair (.i .i64) .bo))] (.i .i64))))))
def XG (xs:List (Int×Int×Bool)) (nl:Bool) (d:Int×Int×Int×(((Int×Int×Bool)×(Int×Int×Bool)->Prop)×((Int×Int×Bool)×(Int×Int×Bool)->Int))):Prop:=d.1=0/\d.2.1=xs.length/\xs.length<=12/\(∀ x∈xs,∀ y∈xs,d.2.2.2.1 (x,y))
def ZB (xs:List (Int×Int×Bool)) (nl:Bool) (d:Int×Int×Int×(((Int×Int×Bool)×(Int×Int×Bool)->Prop)×((Int×Int×Bool)×(Int×Int×Bool)->Int))):SV:=.tup []
def Zu (xs:List (Int×Int×Bool)) (nl:Bool) (d:Int×Int×Int×(((Int×Int×Bool)×(Int×Int×Bool)->Prop)×((Int×Int×Bool)×(Int×Int×Bool)->Int))):List (Int×Int×Bool):=(AU d.2.2.2.2 xs 0 xs.length)
def QX:XSp:=Q7a (gap [] 3) (Q88 69 (.pair (.i .i64) (.pair (.i .i64) .bo)) ZI XG ZB Zu)
def Qv (xs:List (Int×Int×Bool)) (nl:Bool) (a:Int) (b:Int) (li:Int) (p:((Int×Int×Bool)×(Int×Int×Bool)->Prop)×((Int×Int×Bool)×(Int×Int×Bool)->Int)):Prop:=∀ vals:List Value,
 ∃ (e3:Unit) (d30:Unit),((True/\a=a/\b=b/\li=li/\(SV.pf [(.pair (.i .i64) (.pair (.i .i64) .bo)),(.pair (.i .i64) (.pair (.i .i64) .bo))] (.i .i64) p.1 p.2=SV.pf [(.pair (.i .i64) (.pair (.i .i64) .bo)),(.pair (.i .i64) (.pair (.i .i64) .bo))] (.i .i64) p.1 p.2)/\true=true/\true=true/\True)/\((xs=xs/\nl=nl)/\(vals=vals/\(True/\(([]:List SV)=[])))/\True)) /\
 LoopP (λ(d3:Unit) (q3:(Unit)->Prop) =>
  (I64 (b-a))/\((decide ((b-a)<=(12:Int)))=true ->
   (0<=a/\a<=b/\b<=xs.length/\xs.length<=12/\(∀ x∈xs,∀ y∈xs,(λ(x1:(Int×Int×Bool)×(Int×Int×Bool))=>p.1 ((x1.1.1,(x1.1.2.1,x1.1.2.2)),(x1.2.1,(x1.2.2.1,x1.2.2.2)))) (x,y)))/\(vals=vals/\(True/\(([]:List SV)=[]))/\((([]:List SV)=[]))/\((AU (λ(x1:(Int×Int×Bool)×(Int×Int×Bool))=>(p.2 ((x1.1.1,(x1.1.2.1,x1.1.2.2)),(x1.2.1,(x1.2.2.1,x1.2.2.2))))) xs a.toNat b.toNat)=(AU p.2 xs 0 xs.length)/\nl=nl))) /\
  ((decide ((b-a)<=(12:Int)))=false ->
   ((li==(0:Int))=true ->
    False) /\
   ((li==(0:Int))=false ->
    ((!true)=true ->
     False) /\
    ((!true)=false ->
     False)))) d30
def ZD:Cx:=⟨[],[],148,[],0,[(86,QE),(87,Z27),(88,Z27),(89,Z27)],[],[],[],false,[],[],[],[]⟩
def ZK (xs:List (Int×Int×Bool)) (nl:Bool) (a:Int) (b:Int) (li:Int) (p:((Int×Int×Bool)×(Int×Int×Bool)->Prop)×((Int×Int×Bool)×(Int×Int×Bool)->Int)) (vals:List Value):List (Nat×LoopAnn):=[(0,⟨Unit,Unit,[0,1,2,3,4,10,11],λe x=>[.lst 0,.val (.i .i64) a,.val (.i .i64) b,.val (.i .i64) li,.pf [(.pair (.i .i64) (.pair (.i .i64) .bo)),(.pair (.i .i64) (.pair (.i .i64) .bo))] (.i .i64) p.1 p.2,.val .bo true,.val .bo true],λe x=>[(0,.slot 0,.lst 69 (.pair (.i .i64) (.pair (.i .i64) .bo)) xs nl),(4000000,.key 4000000,.stk [.lst 0] vals)]⟩)]
theorem Wa (xs:List (Int×Int×Bool)) (nl:Bool) (d:Int×Int×Int×(((Int×Int×Bool)×(Int×Int×Bool)->Prop)×((Int×Int×Bool)×(Int×Int×Bool)->Int))):(∀ vals,gwp ZD (ZK xs nl d.1 d.2.1 d.2.2.1 d.2.2.2 vals) c76 0 (Q93 vals [] (ZB xs nl d) (.lst 69 (.pair (.i .i64) (.pair (.i .i64) .bo)) (Zu xs nl d) nl) (.lst 0)) (BM 148 (.lst 0) (.lst 69 (.pair (.i .i64) (.pair (.i .i64) .bo)) xs nl) vals (AL.can ZI d)))=Qv xs nl d.1 d.2.1 d.2.2.1 d.2.2.2:=by kernel_rfl
abbrev W3:Prop:=XOk Tryz.prog 76 QX
theorem W5 (h:∀ (xs:List (Int×Int×Bool)) (nl:Bool) (a:Int) (b:Int) (li:Int) (p:((Int×Int×Bool)×(Int×Int×Bool)->Prop)×((Int×Int×Bool)×(Int×Int×Bool)->Int)),(a=0/\b=xs.length/\xs.length<=12/\(∀ x∈xs,∀ y∈xs,p.1 (x,y)))->Qv xs nl a b li p):XOk Tryz.prog 76 QX :=
 IP J0y mixed (Ir .nil 3) (C:=ZD) ⟨.nil,(XsOk.cons JM (XsOk.cons IS (XsOk.cons IS (XsOk.cons IS XsOk.nil)))),ItsOk.nil,YlOk.nil,IysOk.nil,XfOk.nil⟩ (L:=λxs nl (d:Int×Int×Int×(((Int×Int×Bool)×(Int×Int×Bool)->Prop)×((Int×Int×Bool)×(Int×Int×Bool)->Int))) vals=>ZK xs nl d.1 d.2.1 d.2.2.1 d.2.2.2 vals) (V:=λxs nl (d:Int×Int×Int×(((Int×Int×Bool)×(Int×Int×Bool)->Prop)×((Int×Int×Bool)×(Int×Int×Bool)->Int)))=>Qv xs nl d.1 d.2.1 d.2.2.1 d.2.2.2) Wa λxs nl d hp=>h xs nl d.1 d.2.1 d.2.2.1 d.2.2.2 hp
theorem XN:W3:=W5 λxs nl a b li p h=>by
 obtain⟨rfl,rfl,h2,h3⟩:=h;unfold Qv;(try delta lI gD sT I64 Q2 pj8 pj4);intro vals;refine⟨(),(),(by and_intros<;>first|rfl|trivial|simp),?_⟩;refine⟨λ_=>True,λ_=>0,trivial,?_⟩;rintro⟨⟩ -
 refine⟨by simp only[Q7];omega,λ_=>⟨⟨by omega,by omega,by omega,h2,h3⟩,(by and_intros<;>first|rfl|trivial|simp)⟩,λc=>by simp at c;omega⟩
def Z9:AL (((Int×Int×Bool)×(Int×Int×Bool)->Prop)×((Int×Int×Bool)×(Int×Int×Bool)->Int)):=(.one (.fn [(.pair (.i .i64) (.pair (.i .i64) .bo)),(.pair (.i .i64) (.pair (.i .i64) .bo))] (.i .i64)))
def Jq (xs:List (Int×Int×Bool)) (nl:Bool) (d:((Int×Int×Bool)×(Int×Int×Bool)->Prop)×((Int×Int×Bool)×(Int×Int×Bool)->Int)):Prop:=xs.length<=12/\(∀ x∈xs,∀ y∈xs,d.1 (x,y))
def Z1 (xs:List (Int×Int×Bool)) (nl:Bool) (d:((Int×Int×Bool)×(Int×Int×Bool)->Prop)×((Int×Int×Bool)×(Int×Int×Bool)->Int)):SV:=.tup []
def Q_ (xs:List (Int×Int×Bool)) (nl:Bool) (d:((Int×Int×Bool)×(Int×Int×Bool)->Prop)×((Int×Int×Bool)×(Int×Int×Bool)->Int)):List (Int×Int×Bool):=(AU d.2 xs 0 xs.length)
def QA:XSp:=Q7a (gap [(31,KA)] 3) (Q88 69 (.pair (.i .i64) (.pair (.i .i64) .bo)) Z9 Jq Z1 Q_)
def Qk (xs:List (Int×Int×Bool)) (nl:Bool) (p:((Int×Int×Bool)×(Int×Int×Bool)->Prop)×((Int×Int×Bool)×(Int×Int×Bool)->Int)):Prop:=∀ vals:List Value,
 (InK .u64 (lI xs))/\(0<=(lI xs)/\(lI xs)<=255)/\((0:Int)=0/\(lI xs)=xs.length/\xs.length<=12/\(∀ x∈xs,∀ y∈xs,(λ(x1:(Int×Int×Bool)×(Int×Int×Bool))=>p.1 ((x1.1.1,(x1.1.2.1,x1.1.2.2)),(x1.2.1,(x1.2.2.1,x1.2.2.2)))) (x,y)))/\(vals=vals/\(True/\(([]:List SV)=[]))/\((([]:List SV)=[]))/\((AU (λ(x1:(Int×Int×Bool)×(Int×Int×Bool))=>(p.2 ((x1.1.1,(x1.1.2.1,x1.1.2.2)),(x1.2.1,(x1.2.2.1,x1.2.2.2))))) xs 0 xs.length)=(AU p.2 xs 0 xs.length)/\nl=nl))
def Z7:Cx:=⟨[],[(77,UN)],14,[],0,[(76,QX)],[],[],[],false,[],[],[],[]⟩
def Z6 (xs:List (Int×Int×Bool)) (nl:Bool) (p:((Int×Int×Bool)×(Int×Int×Bool)->Prop)×((Int×Int×Bool)×(Int×Int×Bool)->Int)) (vals:List Value):List (Nat×LoopAnn):=[]
theorem JE (xs:List (Int×Int×Bool)) (nl:Bool) (d:((Int×Int×Bool)×(Int×Int×Bool)->Prop)×((Int×Int×Bool)×(Int×Int×Bool)->Int)):(∀ vals,gwp Z7 (Z6 xs nl d vals) c54 0 (Q93 vals [] (Z1 xs nl d) (.lst 69 (.pair (.i .i64) (.pair (.i .i64) .bo)) (Q_ xs nl d) nl) (.lst 0)) (BM 14 (.lst 0) (.lst 69 (.pair (.i .i64) (.pair (.i .i64) .bo)) xs nl) vals (AL.can Z9 d)))=Qk xs nl d:=by kernel_rfl
abbrev JB:Prop:=XOk Tryz.prog 54 QA
theorem JD (h:∀ (xs:List (Int×Int×Bool)) (nl:Bool) (p:((Int×Int×Bool)×(Int×Int×Bool)->Prop)×((Int×Int×Bool)×(Int×Int×Bool)->Int)),(xs.length<=12/\(∀ x∈xs,∀ y∈xs,p.1 (x,y)))->Qk xs nl p):XOk Tryz.prog 54 QA :=
 IP Z93 mixed (Ir (.cons Bc .nil) 3) (C:=Z7) ⟨(.cons Lt .nil),(XsOk.cons XN XsOk.nil),ItsOk.nil,YlOk.nil,IysOk.nil,XfOk.nil⟩ (L:=λxs nl (d:((Int×Int×Bool)×(Int×Int×Bool)->Prop)×((Int×Int×Bool)×(Int×Int×Bool)->Int)) vals=>Z6 xs nl d vals) (V:=λxs nl (d:((Int×Int×Bool)×(Int×Int×Bool)->Prop)×((Int×Int×Bool)×(Int×Int×Bool)->Int))=>Qk xs nl d) JE λxs nl d hp=>h xs nl d hp
theorem Jv:JB:=JD λxs nl p h=>by unfold Qk;(try delta lI gD sT I64 Q2 pj8 pj4);intro vals;have:=h.1;refine⟨by simp only[PS];omega,⟨by omega,by omega⟩,⟨rfl,rfl,h.1,h.2⟩,?_⟩;exact(by and_intros<;>first|rfl|trivial|simp)
theorem Q3k (a b:Int):LD a b=max a b:=by unfold LD;split<;>omega
section
variable (nm:Nat->Int) (wo:Nat->Bool) (n:Nat)
def arP (a i:Nat):Nat:=(a+i) % n
def ChR (a:Nat):List Nat->Prop
 |[]=>False
 |[o]=>o=0
 |j::i::t=>i<j/\j<n/\wo (arP n a j)=false/\nm (arP n a i)<nm (arP n a j)/\ChR a (i::t)
def inR (at_:Nat) (r:List Int) (m:Nat):List Int:=(List.range m).foldl (λr b=>if 0<r.getD b 0/\wo at_=false/\nm b<nm at_ then r.set at_ (LD (r.getD at_ 0) (r.getD b 0+1)) else r) r
def HM (a:Nat):Nat->List Int
 |0=>(List.replicate n 0).set a 1
 |k+1=>inR nm wo (arP n a k) (HM a k) n
def Q09 (a:Nat):Nat->Int
 |0=>0
 |k+1=>LD (Q09 a k) ((HM nm wo n a (k+1)).getD (arP n a k) 0)
def Y9:Nat->Int
 |0=>0
 |k+1=>if wo k=true then Y9 k else LD (Y9 k) (Q09 nm wo n k n)
end
section
variable {nm:Nat->Int}{wo:Nat->Bool}{n:Nat}
theorem SE (hn:0<n) (a i:Nat):arP n a i<n:=x6 _ hn
theorem Q2q {a i j:Nat}(ha:a<n) (hi:i<n) (hj:j<n) (h:arP n a i=arP n a j):i=j:=by
 unfold arP at h;have e:∀ k,k<n->(a+k) % n=if a+k<n then a+k else a+k-n:=λk hk=>by
  split
  .exact zE (by assumption)
  .rw[Nat.mod_eq_sub_mod (by omega),zE (by omega)]
 grind
theorem O_ {a:Nat}(ha:a<n):arP n a 0=a:=zE ha
theorem Z14 {a p:Nat}(ha:a<n) (hp:p<n):∃ i,i<n/\arP n a i=p:=by
 by_cases h:a<=p
 .exact⟨p-a,by omega,by unfold arP;grind [Nat.mod_eq_of_lt]⟩
 .exact⟨p+n-a,by omega,by unfold arP;rw[show a+(p+n-a)=p+n by omega,Nat.add_mod_right,zE hp]⟩
theorem Q5p {at_:Nat}{r:List Int}{m:Nat}:inR nm wo at_ r (m+1)=if 0<(inR nm wo at_ r m).getD m 0/\wo at_=false/\nm m<nm at_ then (inR nm wo at_ r m).set at_ (LD ((inR nm wo at_ r m).getD at_ 0) ((inR nm wo at_ r m).getD m 0+1)) else inR nm wo at_ r m:=by unfold inR;rw[List.range_succ,List.foldl_append];rfl
theorem Z06 {r:List Int}{i j:Nat}{v:Int}(hi:i<r.length):(r.set i v).getD j 0=if i=j then v else r.getD j 0:=by
 grind
theorem C5 {at_:Nat}{r:List Int}(dK:at_<r.length):∀ m,m<=r.length->(inR nm wo at_ r m).length=r.length/\(∀ p,p≠at_->(inR nm wo at_ r m).getD p 0=r.getD p 0)/\r.getD at_ 0<=(inR nm wo at_ r m).getD at_ 0 /\
  (∀ b,b<m->0<r.getD b 0->wo at_=false->nm b<nm at_->r.getD b 0+1<=(inR nm wo at_ r m).getD at_ 0) /\
  ((inR nm wo at_ r m).getD at_ 0=r.getD at_ 0\/∃ b,b<m/\0<r.getD b 0/\wo at_=false/\nm b<nm at_/\(inR nm wo at_ r m).getD at_ 0=r.getD b 0+1)
 |0,_=>⟨rfl,λ_ _=>rfl,Int.le_refl _,λb hb=>by omega,.inl rfl⟩
 |m+1,hm=>by
  obtain⟨h1,h2,h3,h4,h5⟩:=C5 dK m (by omega);rw[Q5p];by_cases hc:0<(inR nm wo at_ r m).getD m 0/\wo at_=false/\nm m<nm at_
  .rw[z2 hc];have uQ:m≠at_:=λe=>by rw[e] at hc;omega
   have hb:=h2 m uQ;have eg:=Q3k ((inR nm wo at_ r m).getD at_ 0) ((inR nm wo at_ r m).getD m 0+1);have bA:∀ p,((inR nm wo at_ r m).set at_ (LD ((inR nm wo at_ r m).getD at_ 0) ((inR nm wo at_ r m).getD m 0+1))).getD p 0=if at_=p then LD ((inR nm wo at_ r m).getD at_ 0) ((inR nm wo at_ r m).getD m 0+1) else (inR nm wo at_ r m).getD p 0:=λp=>Z06 (by rw[h1];exact dK)
   refine⟨by rw[xc];exact h1,λp hp=>?_,?_,λb bF bh kb k_=>?_,?_⟩
   .rw[bA,z0 (Ne.symm hp)];exact h2 p hp
   .rw[bA,z2 rfl];omega
   .rw[bA,z2 rfl];by_cases e:b=m
    .subst e;omega
    .have:=h4 b (by omega) bh kb k_;omega
   .rw[bA,z2 rfl];by_cases e:(inR nm wo at_ r m).getD at_ 0<=(inR nm wo at_ r m).getD m 0+1
    .exact .inr ⟨m,by omega,by omega,hc.2.1,hc.2.2,by omega⟩
    .rcases h5 with h5|⟨b,g1,g2,g3,g4,g5⟩
     .exact .inl (by omega)
     .exact .inr ⟨b,by omega,g2,g3,g4,by omega⟩
  grind
theorem Z3s {a:Nat}(hn:0<n):∀ {j:Nat}{t:List Nat},ChR nm wo n a (j::t)->j<n
 |j,[],h=>by have:j=0:=h;omega
 |j,i::t,h=>h.2.1
theorem Q1z {a:Nat}(ha:a<n):∀ k,k<=n->(HM nm wo n a k).length=n/\(∀ j,j<n->0<=(HM nm wo n a k).getD (arP n a j) 0/\(0<(HM nm wo n a k).getD (arP n a j) 0->(j<k\/j=0)/\∃ t,ChR nm wo n a (j::t)/\((j::t).length:Int)=(HM nm wo n a k).getD (arP n a j) 0)) /\
  (∀ j t,(j<k\/j=0)->ChR nm wo n a (j::t)->((j::t).length:Int)<=(HM nm wo n a k).getD (arP n a j) 0)
 |0,_=>by
  have hn:0<n:=by omega
  have hl:(List.replicate n (0:Int)).length=n:=xl;have hz:∀ p,(List.replicate n (0:Int)).getD p 0=0:=(by grind);have hg:∀ j,(HM nm wo n a 0).getD j 0=if a=j then 1 else 0:=λj=>by
   show ((List.replicate n (0:Int)).set a 1).getD j 0=_
   grind
  refine⟨by show ((List.replicate n (0:Int)).set a 1).length=n;rw[xc,hl],λj hj=>?_,λj t hj hc=>?_⟩
  .rw[hg];refine⟨by split<;>omega,λh=>?_⟩;have e:a=arP n a j:=by
    omega
   have fk:j=0:=(by grind [Q2q,O_]);subst fk;exact⟨.inr rfl,[],rfl,by rw[z2 e];rfl⟩
  .have fk:j=0:=by omega
   subst fk;rw[hg,O_ ha,z2 rfl];cases t with
   |nil=>simp
   |cons i t=>have:i<0:=hc.1;omega
 |k+1,hk=>by
  have hn:0<n:=by omega
  obtain⟨h1,h2,h3⟩:=Q1z ha k (by omega);have dK:arP n a k<(HM nm wo n a k).length:=by rw[h1];exact SE hn a k
  obtain⟨g1,g2,g3,g4,g5⟩:=C5 (nm:=nm) (wo:=wo) dK n (by omega);have e:HM nm wo n a (k+1)=inR nm wo (arP n a k) (HM nm wo n a k) n:=rfl;rw[e];have cK:∀ j,j<n->j≠k->(inR nm wo (arP n a k) (HM nm wo n a k) n).getD (arP n a j) 0=(HM nm wo n a k).getD (arP n a j) 0:=(by grind [Q2q]);refine⟨g1.trans h1,λj hj=>?_,λj t hj hc=>?_⟩
  .by_cases dH:j=k
   .subst dH;have hb:=(h2 j hj).1;refine⟨by omega,λhp=>⟨.inl (by omega),?_⟩⟩;rcases g5 with g5|⟨b,b1,b2,b3,b4,b5⟩
    .grind
    .obtain⟨i,hi,rfl⟩:=Z14 ha b1;obtain⟨wi,t,q1,q2⟩:=(h2 i hi).2 b2;have cB:i<j:=by
      grind
     refine⟨i::t,⟨cB,hj,b3,b4,q1⟩,?_⟩;rw[b5,<-q2];simp
   grind
  .have aT:=Z3s hn hc;by_cases dH:j=k
   .subst dH;cases t with
    |nil =>have fk:j=0:=hc;have:=h3 j [] (.inr fk) hc;omega
    |cons i t =>
     obtain⟨c1,c2,c3,c4,c5⟩:=hc;have hi:=h3 i t (.inl c1) c5;have br:0<(HM nm wo n a j).getD (arP n a i) 0:=by simp only[zJ] at hi;omega
     have:=g4 (arP n a i) (SE hn a i) br c3 c4;simp only[zJ] at hi |-;omega
   grind
theorem Q0v {a:Nat}(ha:a<n):∀ k,k<=n->0<=Q09 nm wo n a k/\(∀ j t,j<k->ChR nm wo n a (j::t)->((j::t).length:Int)<=Q09 nm wo n a k)/\(Q09 nm wo n a k=0\/∃ j t,j<k/\ChR nm wo n a (j::t)/\((j::t).length:Int)=Q09 nm wo n a k)
 |0,_=>⟨Int.le_refl _,λj t h=>by omega,.inl rfl⟩
 |k+1,hk=>by
  obtain⟨h1,h2,h3⟩:=Q0v ha k (by omega);obtain⟨_,r2,r3⟩:=Q1z (nm:=nm) (wo:=wo) ha (k+1) hk;have e:Q09 nm wo n a (k+1)=LD (Q09 nm wo n a k) ((HM nm wo n a (k+1)).getD (arP n a k) 0):=rfl
  grind [Q3k]
theorem Iw:∀ k,k<=n->0<=Y9 nm wo n k/\(∀ a,a<k->wo a=false->∀ j t,ChR nm wo n a (j::t)->((j::t).length:Int)<=Y9 nm wo n k)/\(Y9 nm wo n k=0\/∃ a,a<k/\wo a=false/\∃ j t,ChR nm wo n a (j::t)/\((j::t).length:Int)=Y9 nm wo n k)
 |0,_=>⟨Int.le_refl _,λa h=>by omega,.inl rfl⟩
 |k+1,hk=>by
  obtain⟨h1,h2,h3⟩:=Iw k (by omega);obtain⟨m1,m2,m3⟩:=Q0v (nm:=nm) (wo:=wo) (show k<n by omega) n (z5 _);simp only[Y9];by_cases hw:wo k=true
  .grind
  .rw[z0 hw]
   grind [Q3k,Z3s]
end
def kpL (kp:Nat->Bool) (n:Nat):List Nat:=(List.range n).filter kp
def Z7z (l:List Int):Prop:=∃ A B,l=A++B/\(B++A).Pairwise (·<·)
def I2 (n a p:Nat):Nat:=if a<=p then p-a else p+n-a
section
variable {nm:Nat->Int}{wo:Nat->Bool}{n:Nat}
theorem Cl {a p:Nat}(ha:a<n) (hp:p<n):I2 n a p<n/\arP n a (I2 n a p)=p:=by
 unfold I2 arP;split
 .grind [Nat.mod_eq_of_lt]
 .exact⟨by omega,by rw[show a+(p+n-a)=p+n by omega,Nat.add_mod_right,zE hp]⟩
theorem IT {kp:Nat->Bool}{p:Nat}:p∈kpL kp n<->p<n/\kp p=true:=by unfold kpL;rw[zU,zS]
theorem RK (kp:Nat->Bool) (n:Nat):(kpL kp n).Pairwise (·<·):=List.Pairwise.filter _ List.pairwise_lt_range
theorem SL {a:Nat}:∀ {L:List Nat},L.Pairwise (·<·)->L=L.filter (λp=>decide (p<a))++L.filter (λp=>!decide (p<a))
 |[],_=>rfl
 |x::t,h=>by
  obtain⟨h1,h2⟩:=xP.1 h;by_cases hx:x<a
  .rw[List.filter_cons_of_pos (by simpa using hx),List.filter_cons_of_neg (by simpa using hx),x7,<-SL h2]
  grind [List.filter_eq_nil_iff,List.filter_eq_self,List.filter_cons_of_neg,List.filter_cons_of_pos]
theorem Q0k {a:Nat}(ha:a<n) (i_:wo a=false):∀ {R:List Nat},ChR nm wo n a R->R≠[]/\R.Pairwise (λx y=>y<x/\nm (arP n a y)<nm (arP n a x))/\∀ o∈R,o<n/\wo (arP n a o)=false
 |[],h=>h.elim
 |[o],h=>by
  have h0:o=0:=h
  grind [List.mem_singleton,O_]
 |j::i::t,h=>by
  obtain⟨h1,h2,h3,h4,h5⟩:=h;obtain⟨g1,g2,g3⟩:=Q0k ha i_ h5
  grind [List.pairwise_cons]
theorem Z3h {a:Nat}:∀ {R:List Nat}(aK:R≠[]),R.getLast aK=0->R.Pairwise (λx y=>y<x/\nm (arP n a y)<nm (arP n a x))->(∀ o∈R,o<n/\wo (arP n a o)=false)->ChR nm wo n a R
 |[],h,_,_,_=>(h rfl).elim
 |[o],_,h,_,_=>h
 |j::i::t,_,h,hp,ho=>by obtain⟨p1,p2⟩:=xP.1 hp;have h1:=p1 i (zz ..);have h2:=ho j (zz ..);exact⟨h1.1,h2.1,h2.2,h1.2,Z3h (R:=i::t) (by simp) (by simp_all) p2 (by simp_all)⟩
theorem Z5c {R:List Nat}{f:Nat->Int}(h:R.Pairwise (λx y=>y<x/\f y<f x)) {x y:Nat}(hx:x∈R) (hy:y∈R) (aj:x<y):f x<f y:=by
 grind [List.getElem_of_mem,List.pairwise_iff_getElem,Nat.lt_trichotomy]
theorem Q8k {a:Nat}(ha:a<n) (i_:wo a=false) {R:List Nat}(hc:ChR nm wo n a R):∃ kp:Nat->Bool,(∀ p,kp p=true->p<n/\wo p=false)/\Z7z ((kpL kp n).map nm)/\(kpL kp n).length=R.length:=by
 obtain⟨h1,h2,h3⟩:=Q0k ha i_ hc;have aW:∀ p,p∈kpL (λp=>decide (p∈R.map (arP n a))) n<->p∈R.map (arP n a):=λp=>by
  rw[IT,ze]
  grind [SE]
 have aQ:∀ p,p∈kpL (λp=>decide (p∈R.map (arP n a))) n->I2 n a p∈R/\p=arP n a (I2 n a p):=(by grind [SE,Cl,Q2q]);refine⟨λp=>decide (p∈R.map (arP n a)),λp hp=>?_,?_,?_⟩
 .obtain⟨o,ho,rfl⟩:=zC.1 (z7 hp);exact⟨SE (by omega) a o,(h3 o ho).2⟩
 .have hs:=RK (λp=>decide (p∈R.map (arP n a))) n;have cQ:=SL (a:=a) hs;have aj:∀ p∈kpL (λp=>decide (p∈R.map (arP n a))) n,p<n:=λp hp=>(IT.1 hp).1;generalize kpL (λp=>decide (p∈R.map (arP n a))) n=L at *
  refine⟨(L.filter λp=>decide (p<a)).map nm,(L.filter λp=>!decide (p<a)).map nm,by rw[<-xw,<-cQ],?_⟩;rw[<-xw,x_];have fZ:((L.filter λp=>!decide (p<a))++(L.filter λp=>decide (p<a))).Pairwise (λx y=>I2 n a x<I2 n a y):=by
   refine List.pairwise_append.2 ⟨(hs.filter _).imp_of_mem λ{x y} hx hy h=>?_,(hs.filter _).imp_of_mem λ{x y} hx hy h=>?_,λx hx y hy=>?_⟩
   .have q1:=(zU.1 hx).2;have q2:=(zU.1 hy).2;simp at q1 q2;unfold I2;rw[z2 q1,z2 q2];omega
   .have q1:=(zU.1 hx).2;have q2:=(zU.1 hy).2;simp at q1 q2;unfold I2;rw[z0 (by omega),z0 (by omega)];omega
   .have q1:=(zU.1 hx).2;have q2:=(zU.1 hy).2;have q3:=aj x (zU.1 hx).1;simp at q1 q2;unfold I2;rw[z2 q1,z0 (by omega)];omega
  refine fZ.imp_of_mem λ{x y} hx hy h=>?_;have mx:x∈L:=by
   grind
  have my:y∈L:=by
   grind
  obtain⟨x1,x2⟩:=aQ x mx;obtain⟨y1,y2⟩:=aQ y my;have:=Z5c (f:=λo=>nm (arP n a o)) h2 x1 y1 h
  grind
 .have gv:(R.map (arP n a)).Nodup:=by
   grind
  have hp:(kpL (λp=>decide (p∈R.map (arP n a))) n).Perm (R.map (arP n a)):=(xS ((RK _ n).imp λh=>by omega) gv).2 aW;rw[hp.length_eq,xR]
theorem Z0s {kp:Nat->Bool}(hk:∀ p,kp p=true->wo p=false) (aK:kpL kp n≠[]) (ho:Z7z ((kpL kp n).map nm)):∃ a,a<n/\wo a=false/\∃ j t,ChR nm wo n a (j::t)/\(j::t).length=(kpL kp n).length:=by
 have hs:=RK kp n;have aW:∀ p∈kpL kp n,p<n/\wo p=false:=(by grind [IT]);generalize kpL kp n=L at *
 obtain⟨A,B,hL,hB,fZ⟩:∃ A B:List Nat,L=A++B/\B≠[]/\((B++A).map nm).Pairwise (·<·):=by
  obtain⟨A',B',h1,h2⟩:=ho
  grind [List.map_eq_append_iff]
 cases B with
 |nil=>exact(hB rfl).elim
 |cons a B =>
 have uR:a∈L:=by rw[hL];simp
 obtain⟨ha,i_⟩:=aW a uR;rw[hL] at hs;obtain⟨s1,s2,s3⟩:=List.pairwise_append.1 hs;have b8:∀ p∈a::B,a<=p:=λp hp=>by
  rcases zK.1 hp with rfl|hp
  .exact z5 _
  .exact Nat.le_of_lt ((xP.1 s2).1 p hp)
 have aj:∀ p∈A,p<a:=(by simp_all);have hQ:∀ p∈(a::B)++A,p<n/\wo p=false:=(by grind);have aQ:(((a::B)++A).map (I2 n a)).Pairwise (λx y=>x<y/\nm (arP n a x)<nm (arP n a y)):=by
  have h1:((a::B)++A).Pairwise (λx y=>I2 n a x<I2 n a y):=by
   refine List.pairwise_append.2 ⟨s2.imp_of_mem λ{x y} hx hy h=>?_,s1.imp_of_mem λ{x y} hx hy h=>?_,λx hx y hy=>?_⟩
   .have:=b8 x hx;have:=b8 y hy;unfold I2;grind
   .have:=aj x hx;have:=aj y hy;unfold I2;grind
   .have:=b8 x hx;have:=aj y hy;have:=(hQ x (wH _ hx)).1;unfold I2;grind
  rw[x_];refine (h1.and (x_.1 fZ)).imp_of_mem λ{x y} hx hy h=>⟨h.1,?_⟩
  grind [Cl]
 have dB:ChR nm wo n a (((a::B)++A).map (I2 n a)).reverse:=by
  refine Z3h (by simp) ?_ (List.pairwise_reverse.2 aQ) λo ho=>?_
  .rw[List.getLast_reverse];simp[I2]
  .rw[List.mem_reverse] at ho;obtain⟨p,hp,rfl⟩:=zC.1 ho
   grind [Cl]
 refine⟨a,ha,i_,?_⟩;have hlen:(((a::B)++A).map (I2 n a)).reverse.length=L.length:=by simp_all
 cases hr:(((a::B)++A).map (I2 n a)).reverse with
 |nil=>rw[hr] at dB;exact dB.elim
 |cons j t=>exact(by grind)
theorem Z22 (nm:Nat->Int) (wo:Nat->Bool) (n:Nat):(∀ kp:Nat->Bool,(∀ p,kp p=true->wo p=false)->Z7z ((kpL kp n).map nm)->((kpL kp n).length:Int)<=Y9 nm wo n n) /\
  ∃ kp:Nat->Bool,(∀ p,kp p=true->p<n/\wo p=false)/\Z7z ((kpL kp n).map nm)/\((kpL kp n).length:Int)=Y9 nm wo n n:=by
 obtain⟨h1,h2,h3⟩:=Iw (nm:=nm) (wo:=wo) (n:=n) n (z5 _);refine⟨λkp hk ho=>?_,?_⟩
 .by_cases aK:kpL kp n=[]
  .rw[aK];exact h1
  .obtain⟨a,ha,i_,j,t,hc,hl⟩:=Z0s hk aK ho
   grind
 .rcases h3 with h3|⟨a,ha,i_,j,t,hc,hl⟩
  .have e:kpL (λ_=>false) n=[]:=by unfold kpL;simp
   exact⟨λ_=>false,(λp hp=>by cases hp),(by rw[e];exact⟨[],[],rfl,.nil⟩),(by rw[e,h3];rfl)⟩
  grind [Q8k]
end
def woL (l:List Int) (p:Nat):Bool:=decide ((p:Int)∈l)
section
variable (nm:Nat->Int) (n:Nat)
def T6:Int:=Y9 nm (λ_=>false) n n
def mvK:Nat->List Int
 |0=>[]
 |k+1=>if ((mvK k).length:Int)+T6 nm n=n then mvK k else if Y9 nm (woL (mvK k++[(k:Int)])) n n<T6 nm n then mvK k else mvK k++[(k:Int)]
end
section
variable {nm:Nat->Int}{n:Nat}
theorem Q0z (kp:Nat->Bool):∀ n,(kpL kp n).length+(kpL (λp=>!kp p) n).length=n
 |0=>rfl
 |n+1=>by
  have ih:=Q0z kp n;unfold kpL at ih |-
  grind [List.range_succ,List.length_append]
end
def Za (l:List Int) (i:Int):Int:=if l.length=0 then 0 else l.getD (Int.tmod i l.length).toNat 0
theorem Oc {l:List Int}{i:Int}(h:∀ x∈l,0<=x/\x<=255) (hi:0<=i):0<=Za l i/\Za l i<=255:=by
 unfold Za
 grind [Int.tmod_eq_emod_of_nonneg,Int.emod_nonneg,Int.emod_lt_of_pos,Qg,List.getElem_mem]
theorem Q3q {l:List Int}(h:l.Pairwise (·<·)):∀ (m i:Nat) (hj:i+m<l.length),l[i]+(m:Int)<=l[i+m]
 |0,i,hj=>by simp
 |m+1,i,hj=>by have h1:=Q3q h m i (by omega);have h2:=List.pairwise_iff_getElem.1 h (i+m) (i+(m+1)) (by omega) hj (by omega);omega
theorem Z5v {l:List Int}(h:l.Pairwise (·<·)) (hb:∀ x∈l,0<=x/\x<l.length) {i:Nat}(hi:i<l.length):l[i]=(i:Int):=by
 have h1:=Q3q h i 0 (by omega);have h2:=Q3q h (l.length-1-i) i (by omega);have h3:=hb _ (zh (show 0<l.length by omega));have h4:=hb _ (zh (show i+(l.length-1-i)<l.length by omega));simp only[zN] at h1;omega
theorem Z26 {rows:List Int}{s:List YQ}(hl:s.length=rows.length) (hs:(s.map (·.1)).Pairwise (·<·)) (hb:∀ c∈s,0<=c.1/\c.1<rows.length/\c.2.1=rows.getD c.1.toNat 0):(s.map λc=>((c.1,(c.2.1,false)):YQ))=Co rows:=by
 refine List.ext_getElem (by simp[Co,hl]) λi h1 h2=>?_;have hi:i<s.length:=by simpa using h1
 have h3:=Z5v hs (λx hx=>by
  obtain⟨c,hc,rfl⟩:=zC.1 hx;have:=hb c hc;simp only[xR,hl];omega) (i:=i) (by simpa using hi)
 simp only[xq] at h3;obtain⟨-,-,h4⟩:=hb _ (zh hi);simp only[xq,Co,List.getElem_range,h3,h4,z4]
theorem Q6p {α:Type}{l:List α}{i k:Nat}{d:α}(hi:i<l.length) (hk:k<l.length):((l.set i (l.getD k d)).set k (l.getD i d)).Perm l:=by
 grind [Qg,List.set_set_perm]
def Q7r (p:YQ×YQ):Int:=Q3d p.1.1 p.2.1
def Z0v (cs:List YQ):List YQ:=(AU Q7r cs 0 cs.length).map λc=>((c.1,(c.2.1,false)):YQ)
theorem Q2r {x y:YQ}:Q7r (x,y)<0<->x.1<y.1:=by unfold Q7r Q3d;grind
theorem Q8q {rows:List Int}{cs:List YQ}(hl:cs.length=rows.length) (hn:(cs.map (·.1)).Nodup) (hb:∀ c∈cs,0<=c.1/\c.1<rows.length/\c.2.1=rows.getD c.1.toNat 0):Z0v cs=Co rows:=by
 have hp:=CW (f:=Q7r) (a:=0) (z5 cs.length);have hs:=Q94 (f:=Q7r) (by grind [Q2r]) (λx y z h1 h2 h3=>by rw[Q2r] at h1 h2 h3;omega) cs;refine Z26 (hp.length_eq.trans hl) ?_ λc hc=>hb c (hp.mem_iff.1 hc);have mN:=(hp.map (·.1)).nodup_iff.2 hn;have mg:((AU Q7r cs 0 cs.length).map (·.1)).Pairwise (·<=·):=(by grind [Q2r]);exact(mg.and mN).imp (by omega)
theorem WV (a:Int) (b:Bool) (m:List (Int×Bool)) (e:Int) (d:Bool):gq.aget (.i .i64) ((a,b)::m) e d=if e=a then b else gq.aget (.i .i64) m e d:=by show (if (e==a)=true then b else gq.aget (.i .i64) m e d)=_;simp only[zD]
theorem HA (a:Int) (b:Bool) (m:List (Int×Bool)) (k:Int) (v:Bool):Dk (.i .i64) ((a,b)::m) k v=if k=a then (k,v)::m else (a,b)::Dk (.i .i64) m k v:=by show (if (k==a)=true then (k,v)::m else (a,b)::Dk (.i .i64) m k v)=_;simp only[zD]
theorem Q7t {F:List Int}{k:Int}(h:k∉F):Dk (.i .i64) (F.map λx=>(x,true)) k true=(F++[k]).map λx=>(x,true):=by
 induction F with
 |nil=>rfl
 |cons a F ih =>have h1:k≠a:=(by simp_all);have h2:k∉F:=λe=>h (zr _ e);simp only[zx,x7];rw[HA,z0 h1,ih h2]
theorem Q89 {F:List Int}{k:Int}:gq.aget (.i .i64) (F.map λx=>(x,true)) k false=decide (k∈F):=by
 induction F with
 |nil=>rfl
 |cons a F ih =>
  simp only[zx];rw[WV,ih];by_cases e:k=a
  .simp[e]
  .simp[e]
def nmC (cs:List YQ) (i:Nat):Int:=(cs.getD i Ya).1
def woM (m:List (Int×Bool)) (p:Nat):Bool:=gq.aget (.i .i64) m (p:Int) false
def QQ (hk:Int) (cs:List YQ):Int:=if QG hk cs≠0 then QG hk cs else if (-1:Int)∈cs.map (·.1) then 9 else if (cs.map (·.1)).Nodup then 0 else 6
def Q2o (hk:Int) (cs:List YQ):List Int:=if QQ hk cs=0 then mvK (nmC cs) cs.length cs.length else []
def Wt (hk:Int) (cs:List YQ):List YQ:=if QQ hk cs=0 then Z0v cs else []
def VR (hk:Int) (cs:List YQ):Int:=if QQ hk cs=0 then hk else 0
theorem Rg:∀ {m:List (Int×Bool)}{k:Int},(∀ p∈m,p.2=true)->gq.aget (.i .i64) m k false=true->(Dk (.i .i64) m k true).length=m.length/\∀ p∈Dk (.i .i64) m k true,p.2=true
 |[],k,_,h=>by cases h
 |(a,b)::m,k,ht,h=>by
  rw[WV] at h;rw[HA];by_cases e:k=a
  .simp_all
  .rw[z0 e] at h |-;obtain⟨h1,h2⟩:=Rg (m:=m) (k:=k) (by simp_all) h;simp_all
theorem G4:∀ {m:List (Int×Bool)}{k:Int},(∀ p∈m,p.2=true)->gq.aget (.i .i64) m k false=false->(Dk (.i .i64) m k true).length=m.length+1/\∀ p∈Dk (.i .i64) m k true,p.2=true
 |[],k,_,h=>⟨rfl,λp hp=>by
   have hp:p∈[(k,true)]:=hp;rw[zO.1 hp]⟩
 |(a,b)::m,k,ht,h=>by
  rw[WV] at h;rw[HA];by_cases e:k=a
  .simp_all
  .rw[z0 e] at h |-;obtain⟨h1,h2⟩:=G4 (m:=m) (k:=k) (by simp_all) h;simp_all
theorem Q10 (k:Int) (v:Bool):∀ (m:List (Int×Bool)) (e:Int),gq.aget (.i .i64) (Dk (.i .i64) m k v) e false=if e=k then v else gq.aget (.i .i64) m e false
 |[],e=>by have:Dk (.i .i64) ([]:List (Int×Bool)) k v=[(k,v)]:=rfl;rw[this,WV]
 |(a,b)::m,e=>by
  rw[HA];by_cases h:k=a
  .subst h;rw[z2 rfl,WV,WV];split<;>rfl
  .rw[z0 h,WV,WV,Q10 k v m e]
   grind
structure SeenI (l:List Int) (m:List (Int×Bool)) (k:Nat):Prop where
 get:∀ x,gq.aget (.i .i64) m x false=decide (x∈l.take k)
 tr:∀ p∈m,p.2=true
 le:m.length<=k
 nd:m.length=k<->(l.take k).Nodup
theorem SeenI.nil (l:List Int):SeenI l [] 0:=⟨λx=>by simp[gq.aget],(λp hp=>by cases hp),z5 _,by simp⟩
theorem SeenI.put {l:List Int}{m:List (Int×Bool)}{k:Nat}(h:SeenI l m k) (hk:k<l.length):SeenI l (Dk (.i .i64) m (l.getD k 0) true) (k+1):=by
 have et:l.take (k+1)=l.take k++[l.getD k 0]:=by rw[XJ hk,Qg hk]
 have hle:=h.le;refine⟨λx=>?_,?_,?_,?_⟩
 .rw[Q10,et];by_cases e:x=l.getD k 0
  .grind
  .rw[z0 e,h.get]
   grind
 .cases c:gq.aget (.i .i64) m (l.getD k 0) false with
  |true=>exact(Rg h.tr c).2
  |false=>exact(G4 h.tr c).2
 .cases c:gq.aget (.i .i64) m (l.getD k 0) false with
  |true=>rw[(Rg h.tr c).1];omega
  |false=>rw[(G4 h.tr c).1];omega
 .rw[et,List.nodup_append];have c1:=h.get (l.getD k 0);cases c:gq.aget (.i .i64) m (l.getD k 0) false with
  |true =>rw[c] at c1;rw[(Rg h.tr c).1];refine⟨λe=>by omega,λe=>?_⟩;exact(by grind)
  |false =>
   rw[c] at c1;rw[(G4 h.tr c).1];have c2:=z6 c1.symm;refine⟨λe=>⟨h.nd.1 (by omega),by simp,λa ha b hb e2=>?_⟩,λe=>?_⟩
   .simp_all
   .have:=h.nd.2 e.1;omega
theorem SeenI.full {l:List Int}{m:List (Int×Bool)}(h:SeenI l m l.length):gq.aget (.i .i64) m (-1) false=decide ((-1:Int)∈l)/\(decide ((m.length:Int)<(l.length:Int))=decide (¬ l.Nodup)):=by
 have h1:=h.get (-1);have h2:=h.nd;have h3:=h.le
 grind
theorem Z0c (nm:Nat->Int) (wo:Nat->Bool) (n:Nat):0<=Y9 nm wo n n/\Y9 nm wo n n<=n/\∀ k,k<n->wo k=true->Y9 nm wo n n<n:=by
 obtain⟨kp,h1,_,h3⟩:=(Z22 nm wo n).2;have hc:=Q0z kp n;refine⟨by omega,by omega,λk hk hw=>?_⟩;have hf:kp k=false:=by
  grind
 have hm:k∈kpL (λp=>!kp p) n:=IT.2 ⟨hk,by rw[hf];rfl⟩
 grind
theorem Z0e (nm:Nat->Int) (n:Nat):∀ k,(mvK nm n k).length<=k
 |0=>z5 _
 |k+1=>by
  have:=Z0e nm n k;unfold mvK
  grind
theorem Q4r (nm:Nat->Int) (n:Nat):∀ k,∀ x∈mvK nm n k,x<(k:Int)
 |0,x,h=>by cases h
 |k+1,x,h=>by
  unfold mvK at h;split at h
  .have:=Q4r nm n k x h;omega
  .split at h
   .have:=Q4r nm n k x h;omega
   .rcases xk.1 h with h|h
    .have:=Q4r nm n k x h;omega
    .rw[zO.1 h];omega
theorem Q4x {nm:Nat->Int}{n j:Nat}(h:((mvK nm n j).length:Int)+T6 nm n=n):∀ d,mvK nm n (j+d)=mvK nm n j
 |0=>rfl
 |d+1=>by have ih:=Q4x h d;show (if ((mvK nm n (j+d)).length:Int)+T6 nm n=n then mvK nm n (j+d) else _)=_;rw[ih,z2 h]
theorem Z4s (F:List Int):woM (F.map λx=>(x,true))=woL F:=by
 funext p
 unfold woM woL;exact Q89
theorem Z0i {F:List Int}{k:Int}(h:k∉F):Z3a (.i .i64) ((F++[k]).map λx=>(x,true)) k=F.map λx=>(x,true):=by
 have st:∀ (a:Int) (m:List (Int×Bool)),Z3a (.i .i64) ((a,true)::m) k=if k=a then m else (a,true)::Z3a (.i .i64) m k:=λa m=>by show (if (k==a)=true then m else (a,true)::Z3a (.i .i64) m k)=_;simp only[zD]
 induction F with
 |nil =>rw[xp,zx,st,z2 rfl]
 |cons a F ih =>have h1:k≠a:=(by simp_all);rw[x7,zx,st,z0 h1,ih λe=>h (zr _ e)];rfl
theorem Q34 {nm:Nat->Int}{wo:Nat->Bool}{n a:Nat}(ha:a<n):∀ k,k<=n->(HM nm wo n a k).length=n/\∀ p,(HM nm wo n a k).getD p 0<=(k:Int)+1
 |0,_=>by
  refine⟨by simp[HM],λp=>?_⟩;show ((List.replicate n (0:Int)).set a 1).getD p 0<=_
  grind
 |k+1,hk=>by
  obtain⟨h1,h2⟩:=Q34 ha k (by omega) (nm:=nm) (wo:=wo);have dK:arP n a k<(HM nm wo n a k).length:=by rw[h1];exact SE (by omega) a k
  obtain⟨i1,i2,_,_,i5⟩:=C5 (nm:=nm) (wo:=wo) dK n (by omega);have e:HM nm wo n a (k+1)=inR nm wo (arP n a k) (HM nm wo n a k) n:=rfl
  grind
theorem Z7k {nm:Nat->Int}{wo:Nat->Bool}{n a k m:Nat}(ha:a<n) (hk:k<n) (hm:m<=n):(inR nm wo (arP n a k) (HM nm wo n a k) m).length=n/\∀ p,(inR nm wo (arP n a k) (HM nm wo n a k) m).getD p 0<=(k:Int)+2:=by
 grind [Q34,SE,C5]
def Rj:AL (Int×List (Int×Int×Bool)):=(.one (.agg (.cons (.k (.i .i64)) (.one (.k (.list (.pair (.i .i64) (.pair (.i .i64) .bo))))))))
def FM (d:Int×List (Int×Int×Bool)):Prop:=d.2.length<=1000/\(QQ d.1 d.2=0->d.2.length<=12)
def PF (d:Int×List (Int×Int×Bool)):SV:=.tup [.agg [.val (.i .i64) (VR d.1 d.2),.lst 0],.val (.i .i64) (QQ d.1 d.2)]
def Pf (d:Int×List (Int×Int×Bool)):List OB:=[.lst 69 (.pair (.i .i64) (.pair (.i .i64) .bo)) (Wt d.1 d.2) ((Wt d.1 d.2).isEmpty)]
def Be:CSp:=XD Rj FM PF Pf
abbrev U3 :=(((([]:List SV)=[]))/\(True/\(([]:List SV)=[])))
abbrev OW :=(U3/\(((([]:List SV)=[]))/\((([]:List SV)=[])))/\True/\True/\True/\True/\U3/\True/\True/\True/\True/\True/\(([]:List SV)=[]))
abbrev Ho (hk:Int) (cs:List (Int×Int×Bool)):=(((Wt hk cs)=[]/\(Wt hk cs).isEmpty=true)/\True)
abbrev HF (hk:Int) (cs:List (Int×Int×Bool)):=((0:Int)=(VR hk cs)/\True/\(([]:List SV)=[]))
abbrev OX :=(True/\U3/\True/\True/\True/\True/\U3/\True/\True/\True/\True/\True/\True/\(([]:List SV)=[]))
abbrev IG :=(λ(x1:(Int×Int×Bool)×(Int×Int×Bool))=>(Q3d x1.1.1 x1.2.1))
abbrev Oo :=(λ(x2:(Int×Int×Bool)×(Int×Int×Bool))=>(Q3d x2.1.1 x2.2.1))
abbrev IC :=(U3/\True/\True/\U3/\True/\(([]:List SV)=[]))
def VM (hk:Int) (cs:List (Int×Int×Bool)):Prop :=
 ∀ w1:List Value,∀ w2:List Value,(True)/\((!(inI hk 1 24))=true ->
  w2=w2/\w1=w1/\(((HF hk cs)/\(3:Int)=(QQ hk cs)/\(([]:List SV)=[]))/\(Ho hk cs))) /\
 ((!(inI hk 1 24))=false ->
  (((decide ((lI cs) > (60:Int)))=true ->
   w2=w2/\w1=w1/\(((HF hk cs)/\(5:Int)=(QQ hk cs)/\(([]:List SV)=[]))/\(Ho hk cs))) /\
  ((decide ((lI cs) > (60:Int)))=false ->
   (1<=hk/\hk<=24/\cs.length<=1000000)/\((!(!cs.isEmpty&&!(cs.any λc=>!Zt hk c)))=true ->
    w2=w2/\w1=w1/\(((HF hk cs)/\(2:Int)=(QQ hk cs)/\(([]:List SV)=[]))/\(Ho hk cs))) /\
   ((!(!cs.isEmpty&&!(cs.any λc=>!Zt hk c)))=false ->
    w2=w2/\∃ (e5:Int×(List (Int×Int×Bool))×Int×Int×Int×(List (Int×Int×Bool))×Int×(List (Int×Int×Bool))×Int×Int×(List (Int×Int×Bool))×Int×(List (Int×Int×Bool))×Int×Int×Int×(List (Int×Int×Bool))×(List Value)) (d50:(List (Int×Bool))×Int),((True/\True/\True/\True/\cs=(q4 e5).2.2.2.1/\(lI cs)=(q4 (q4 e5)).1/\(0:Int)=d50.2/\True)/\((hk=e5.1/\cs=e5.2.1/\(([]:List SV)=[]))/\((0:Int)=e5.2.2.1/\True/\(0:Int)=e5.2.2.2.1/\(([]:List SV)=[]))/\(hk=(q4 e5).1/\cs=(q4 e5).2.1/\hk=(q4 e5).2.2.1/\(([]:List SV)=[]))/\(([]:List (Int×Bool))=d50.1)/\((q4 (q4 (q4 (q4 e5)))).2=w1/\((hk=(q4 (q4 e5)).2.1/\cs=(q4 (q4 e5)).2.2.1/\(([]:List SV)=[]))/\True/\True/\(0:Int)=(q4 (q4 (q4 e5))).2.2.1/\True/\True/\True/\True/\(hk=(q4 (q4 (q4 e5))).2.2.2.1/\cs=(q4 (q4 (q4 (q4 e5)))).1/\(([]:List SV)=[]))/\True/\True/\True/\True/\True/\True/\True/\True/\True/\True/\True/\True/\True/\True/\True/\True/\True/\True/\True/\True/\True/\True/\True/\True/\True/\(([]:List SV)=[])))/\(hk=(q4 (q4 e5)).2.2.2.1/\cs=(q4 (q4 (q4 e5))).1/\(([]:List SV)=[]))/\((0:Int)=(q4 (q4 (q4 e5))).2.1/\True/\(([]:List SV)=[]))/\True)) /\
    LoopP (λ(d5:(List (Int×Bool))×Int) (q5:((List (Int×Bool))×Int)->Prop) =>
     ((decide (d5.2<(q4 (q4 e5)).1))=true ->
      (0<=d5.2)/\(d5.2<(List.length (q4 e5).2.2.2.1))/\(I64 (d5.2+(1:Int)))/\(∃ d6:(List (Int×Bool))×Int,((True/\True/\True/\True/\(q4 e5).2.2.2.1=(q4 e5).2.2.2.1/\(q4 (q4 e5)).1=(q4 (q4 e5)).1/\(d5.2+(1:Int))=d6.2/\True)/\((e5.1=e5.1/\e5.2.1=e5.2.1/\(([]:List SV)=[]))/\(e5.2.2.1=e5.2.2.1/\True/\e5.2.2.2.1=e5.2.2.2.1/\(([]:List SV)=[]))/\((q4 e5).1=(q4 e5).1/\(q4 e5).2.1=(q4 e5).2.1/\(q4 e5).2.2.1=(q4 e5).2.2.1/\(([]:List SV)=[]))/\((Dk (.i .i64) d5.1 (gD (q4 e5).2.2.2.1 d5.2 (0,(0,false))).1 true)=d6.1)/\((q4 (q4 (q4 (q4 e5)))).2=(q4 (q4 (q4 (q4 e5)))).2/\(((q4 (q4 e5)).2.1=(q4 (q4 e5)).2.1/\(q4 (q4 e5)).2.2.1=(q4 (q4 e5)).2.2.1/\(([]:List SV)=[]))/\True/\True/\(q4 (q4 (q4 e5))).2.2.1=(q4 (q4 (q4 e5))).2.2.1/\True/\True/\True/\True/\((q4 (q4 (q4 e5))).2.2.2.1=(q4 (q4 (q4 e5))).2.2.2.1/\(q4 (q4 (q4 (q4 e5)))).1=(q4 (q4 (q4 (q4 e5)))).1/\(([]:List SV)=[]))/\True/\True/\True/\True/\True/\True/\True/\True/\True/\True/\True/\True/\True/\True/\True/\True/\True/\True/\True/\True/\True/\True/\True/\True/\True/\(([]:List SV)=[])))/\((q4 (q4 e5)).2.2.2.1=(q4 (q4 e5)).2.2.2.1/\(q4 (q4 (q4 e5))).1=(q4 (q4 (q4 e5))).1/\(([]:List SV)=[]))/\((q4 (q4 (q4 e5))).2.1=(q4 (q4 (q4 e5))).2.1/\True/\(([]:List SV)=[]))/\True))/\q5 d6)) /\
     ((decide (d5.2<(q4 (q4 e5)).1))=false ->
      ((gq.aget (.i .i64) d5.1 (-1:Int) false)=true ->
       (q4 (q4 (q4 (q4 e5)))).2=w1/\(((HF hk cs)/\(9:Int)=(QQ hk cs)/\(([]:List SV)=[]))/\(Ho hk cs))) /\
      ((gq.aget (.i .i64) d5.1 (-1:Int) false)=false ->
       ((decide ((lI d5.1)<(lI e5.2.1)))=true ->
        (q4 (q4 (q4 (q4 e5)))).2=w1/\(((HF hk cs)/\(6:Int)=(QQ hk cs)/\(([]:List SV)=[]))/\(Ho hk cs))) /\
       ((decide ((lI d5.1)<(lI e5.2.1)))=false ->
        (q4 (q4 (q4 (q4 e5)))).2=w1/\∀ w7:List Value,w7=w7/\∀ w8:List Value,∀ w9:List Value,∀ lz:List Value,∀ dT:LpD,∃ (aD:(List (Int×Int×Bool))×Int×Int×(List (Int×Int×Bool))×Int×(List (Int×Int×Bool))×Int×Int×Int×(List (Int×Int×Bool))×Int×Int×Int×(List (Int×Int×Bool))×Int×Int×Int×(List (Int×Int×Bool))×Int×(List (Int×Int×Bool))×Int×Int×Int×(List (Int×Int×Bool))×Int×Int×Int×(List (Int×Int×Bool))×(List (Int×Int×Bool))×(List Value)×(List Value)×(List Value)×LpD) (dU:Int×(List (Int×Int×Bool))),((True/\(q4 (q4 (q4 e5))).1=aD.1/\(lI (q4 (q4 (q4 e5))).1)=aD.2.1/\(0:Int)=dU.1/\True)/\(((q4 (q4 (q4 (q4 (q4 (q4 (q4 aD))))))).2.1=w8/\(((q4 (q4 e5)).2.1=aD.2.2.1/\(q4 (q4 e5)).2.2.1=aD.2.2.2.1/\(([]:List SV)=[]))/\True/\True/\(q4 (q4 (q4 e5))).2.2.1=(q4 aD).2.2.2.1/\True/\(0:Int)=(q4 (q4 aD)).2.2.2.1/\True/\(((q4 e5).1=(q4 (q4 (q4 aD))).1/\(q4 e5).2.1=(q4 (q4 (q4 aD))).2.1/\(q4 e5).2.2.1=(q4 (q4 (q4 aD))).2.2.1/\(([]:List SV)=[]))/\(0:Int)=(q4 (q4 (q4 aD))).2.2.2.1/\(([]:List SV)=[]))/\((q4 (q4 (q4 e5))).2.2.2.1=(q4 (q4 (q4 (q4 aD)))).1/\(q4 (q4 (q4 (q4 e5)))).1=(q4 (q4 (q4 (q4 aD)))).2.1/\(([]:List SV)=[]))/\(((q4 e5).1=(q4 (q4 (q4 (q4 aD)))).2.2.1/\(q4 e5).2.1=(q4 (q4 (q4 (q4 aD)))).2.2.2.1/\(q4 e5).2.2.1=(q4 (q4 (q4 (q4 (q4 aD))))).1/\(([]:List SV)=[]))/\(0:Int)=(q4 (q4 (q4 (q4 (q4 aD))))).2.1/\(([]:List SV)=[]))/\((q4 e5).1=(q4 (q4 (q4 (q4 (q4 aD))))).2.2.1/\(q4 e5).2.1=(q4 (q4 (q4 (q4 (q4 aD))))).2.2.2.1/\(q4 e5).2.2.1=(q4 (q4 (q4 (q4 (q4 (q4 aD)))))).1/\(([]:List SV)=[]))/\(0:Int)=(q4 (q4 (q4 (q4 (q4 (q4 aD)))))).2.1/\(0:Int)=(q4 (q4 (q4 (q4 (q4 (q4 aD)))))).2.2.1/\True/\True/\True/\True/\(q4 (q4 (q4 e5))).1=(q4 (q4 (q4 (q4 (q4 (q4 aD)))))).2.2.2.1/\U3/\True/\True/\True/\True/\True/\True/\True/\True/\True/\True/\True/\True/\True/\True/\True/\(([]:List SV)=[])))/\((q4 (q4 e5)).2.2.2.1=(q4 aD).1/\(q4 (q4 (q4 e5))).1=(q4 aD).2.1/\(([]:List SV)=[]))/\((q4 (q4 (q4 e5))).2.1=(q4 aD).2.2.1/\True/\(([]:List SV)=[]))/\((q4 e5).1=(q4 (q4 aD)).1/\(q4 e5).2.1=(q4 (q4 aD)).2.1/\(q4 e5).2.2.1=(q4 (q4 aD)).2.2.1/\(([]:List SV)=[]))/\((q4 (q4 (q4 e5))).1=(q4 (q4 (q4 (q4 (q4 (q4 (q4 aD))))))).1/\(([]:List SV)=[]))/\((q4 (q4 (q4 (q4 (q4 (q4 (q4 aD))))))).2.2.1=w9/\OW)/\((q4 (q4 (q4 (q4 (q4 (q4 (q4 aD))))))).2.2.2.1=lz/\IC)/\((q4 (q4 (q4 (q4 (q4 (q4 (q4 (q4 aD))))))))=dT/\OX)/\(True/\(([]:List SV)=[]))/\(dU.2=[]/\(List.isEmpty dU.2)=true)/\True)) /\
        LoopP (λ(d15:Int×(List (Int×Int×Bool))) (qK:(Int×(List (Int×Int×Bool)))->Prop) =>
         ((decide (d15.1<aD.2.1))=true ->
          (0<=d15.1)/\(d15.1<(List.length aD.1))/\(q4 (q4 (q4 (q4 (q4 (q4 (q4 (q4 aD))))))))=dT/\∀ sq:List Value,(((List.length d15.2)+(List.length [((gD aD.1 d15.1 (0,(0,false))).1,((gD aD.1 d15.1 (0,(0,false))).2.1,(gD aD.1 d15.1 (0,(0,false))).2.2))]))*24<=70368744177664)/\sq=sq/\(q4 (q4 (q4 (q4 (q4 (q4 (q4 (q4 aD))))))))=dT/\((!true)=true ->
           (q4 (q4 (q4 (q4 (q4 (q4 (q4 (q4 aD))))))))=dT/\(q4 (q4 (q4 (q4 (q4 (q4 (q4 aD))))))).2.2.2.1=lz/\(q4 (q4 (q4 (q4 (q4 (q4 (q4 aD))))))).2.2.1=w9/\((d15.2++[((gD aD.1 d15.1 (0,(0,false))).1,((gD aD.1 d15.1 (0,(0,false))).2.1,(gD aD.1 d15.1 (0,(0,false))).2.2))]).length<=12/\(∀ x∈(d15.2++[((gD aD.1 d15.1 (0,(0,false))).1,((gD aD.1 d15.1 (0,(0,false))).2.1,(gD aD.1 d15.1 (0,(0,false))).2.2))]),∀ y∈(d15.2++[((gD aD.1 d15.1 (0,(0,false))).1,((gD aD.1 d15.1 (0,(0,false))).2.1,(gD aD.1 d15.1 (0,(0,false))).2.2))]),(λ(x1:(Int×Int×Bool)×(Int×Int×Bool))=>True) (x,y)))/\(q4 (q4 (q4 (q4 (q4 (q4 (q4 aD))))))).2.1=w8/\∃ (lA:Int) (jq:(List (Int×Int×Bool))×Int),((True/\True/\(lI (AU IG (d15.2++[((gD aD.1 d15.1 (0,(0,false))).1,((gD aD.1 d15.1 (0,(0,false))).2.1,(gD aD.1 d15.1 (0,(0,false))).2.2))]) 0 (d15.2++[((gD aD.1 d15.1 (0,(0,false))).1,((gD aD.1 d15.1 (0,(0,false))).2.1,(gD aD.1 d15.1 (0,(0,false))).2.2))]).length))=lA/\(0:Int)=jq.2/\True)/\(((q4 aD).1=hk/\True/\(([]:List SV)=[]))/\((AU IG (d15.2++[((gD aD.1 d15.1 (0,(0,false))).1,((gD aD.1 d15.1 (0,(0,false))).2.1,(gD aD.1 d15.1 (0,(0,false))).2.2))]) 0 (d15.2++[((gD aD.1 d15.1 (0,(0,false))).1,((gD aD.1 d15.1 (0,(0,false))).2.1,(gD aD.1 d15.1 (0,(0,false))).2.2))]).length)=jq.1/\false=(List.isEmpty jq.1))/\((q4 aD).2.2.1=(0:Int)/\True/\(([]:List SV)=[]))/\True)) /\
           LoopP (λ(d17:(List (Int×Int×Bool))×Int) (uS:((List (Int×Int×Bool))×Int)->Prop) =>
            ((decide (d17.2<lA))=true ->
             (0<=d17.2)/\(d17.2<(List.length d17.1))/\(I64 (d17.2+(1:Int)))/\(∃ d18:(List (Int×Int×Bool))×Int,((True/\True/\lA=lA/\(d17.2+(1:Int))=d18.2/\True)/\((hk=hk/\True/\(([]:List SV)=[]))/\((sT d17.1 d17.2 ((gD d17.1 d17.2 (0,(0,false))).1,((gD d17.1 d17.2 (0,(0,false))).2.1,false)))=d18.1/\(List.isEmpty d17.1)=(List.isEmpty d18.1))/\((0:Int)=(0:Int)/\True/\(([]:List SV)=[]))/\True))/\uS d18)) /\
            ((decide (d17.2<lA))=false ->
             (((hk=(VR hk cs)/\True/\(([]:List SV)=[]))/\(0:Int)=(QQ hk cs)/\(([]:List SV)=[]))/\((d17.1=(Wt hk cs)/\(List.isEmpty d17.1)=(Wt hk cs).isEmpty)/\True)))) jq) /\
          ((!true)=false ->
           (I64 (d15.1+(1:Int)))/\(∃ d19:Int×(List (Int×Int×Bool)),((True/\aD.1=aD.1/\aD.2.1=aD.2.1/\(d15.1+(1:Int))=d19.1/\True)/\(((q4 (q4 (q4 (q4 (q4 (q4 (q4 aD))))))).2.1=(q4 (q4 (q4 (q4 (q4 (q4 (q4 aD))))))).2.1/\((aD.2.2.1=aD.2.2.1/\aD.2.2.2.1=aD.2.2.2.1/\(([]:List SV)=[]))/\True/\True/\(q4 aD).2.2.2.1=(q4 aD).2.2.2.1/\True/\(q4 (q4 aD)).2.2.2.1=(q4 (q4 aD)).2.2.2.1/\True/\(((q4 (q4 (q4 aD))).1=(q4 (q4 (q4 aD))).1/\(q4 (q4 (q4 aD))).2.1=(q4 (q4 (q4 aD))).2.1/\(q4 (q4 (q4 aD))).2.2.1=(q4 (q4 (q4 aD))).2.2.1/\(([]:List SV)=[]))/\(q4 (q4 (q4 aD))).2.2.2.1=(q4 (q4 (q4 aD))).2.2.2.1/\(([]:List SV)=[]))/\((q4 (q4 (q4 (q4 aD)))).1=(q4 (q4 (q4 (q4 aD)))).1/\(q4 (q4 (q4 (q4 aD)))).2.1=(q4 (q4 (q4 (q4 aD)))).2.1/\(([]:List SV)=[]))/\(((q4 (q4 (q4 (q4 aD)))).2.2.1=(q4 (q4 (q4 (q4 aD)))).2.2.1/\(q4 (q4 (q4 (q4 aD)))).2.2.2.1=(q4 (q4 (q4 (q4 aD)))).2.2.2.1/\(q4 (q4 (q4 (q4 (q4 aD))))).1=(q4 (q4 (q4 (q4 (q4 aD))))).1/\(([]:List SV)=[]))/\(q4 (q4 (q4 (q4 (q4 aD))))).2.1=(q4 (q4 (q4 (q4 (q4 aD))))).2.1/\(([]:List SV)=[]))/\((q4 (q4 (q4 (q4 (q4 aD))))).2.2.1=(q4 (q4 (q4 (q4 (q4 aD))))).2.2.1/\(q4 (q4 (q4 (q4 (q4 aD))))).2.2.2.1=(q4 (q4 (q4 (q4 (q4 aD))))).2.2.2.1/\(q4 (q4 (q4 (q4 (q4 (q4 aD)))))).1=(q4 (q4 (q4 (q4 (q4 (q4 aD)))))).1/\(([]:List SV)=[]))/\(q4 (q4 (q4 (q4 (q4 (q4 aD)))))).2.1=(q4 (q4 (q4 (q4 (q4 (q4 aD)))))).2.1/\(q4 (q4 (q4 (q4 (q4 (q4 aD)))))).2.2.1=(q4 (q4 (q4 (q4 (q4 (q4 aD)))))).2.2.1/\True/\True/\True/\True/\(q4 (q4 (q4 (q4 (q4 (q4 aD)))))).2.2.2.1=(q4 (q4 (q4 (q4 (q4 (q4 aD)))))).2.2.2.1/\U3/\True/\True/\True/\True/\True/\True/\True/\True/\True/\True/\True/\True/\True/\True/\True/\(([]:List SV)=[])))/\((q4 aD).1=(q4 aD).1/\(q4 aD).2.1=(q4 aD).2.1/\(([]:List SV)=[]))/\((q4 aD).2.2.1=(q4 aD).2.2.1/\True/\(([]:List SV)=[]))/\((q4 (q4 aD)).1=(q4 (q4 aD)).1/\(q4 (q4 aD)).2.1=(q4 (q4 aD)).2.1/\(q4 (q4 aD)).2.2.1=(q4 (q4 aD)).2.2.1/\(([]:List SV)=[]))/\((q4 (q4 (q4 (q4 (q4 (q4 (q4 aD))))))).1=(q4 (q4 (q4 (q4 (q4 (q4 (q4 aD))))))).1/\(([]:List SV)=[]))/\((q4 (q4 (q4 (q4 (q4 (q4 (q4 aD))))))).2.2.1=(q4 (q4 (q4 (q4 (q4 (q4 (q4 aD))))))).2.2.1/\OW)/\((q4 (q4 (q4 (q4 (q4 (q4 (q4 aD))))))).2.2.2.1=(q4 (q4 (q4 (q4 (q4 (q4 (q4 aD))))))).2.2.2.1/\IC)/\((q4 (q4 (q4 (q4 (q4 (q4 (q4 (q4 aD))))))))=(q4 (q4 (q4 (q4 (q4 (q4 (q4 (q4 aD))))))))/\OX)/\(True/\(([]:List SV)=[]))/\((d15.2++[((gD aD.1 d15.1 (0,(0,false))).1,((gD aD.1 d15.1 (0,(0,false))).2.1,(gD aD.1 d15.1 (0,(0,false))).2.2))])=d19.2/\false=(List.isEmpty d19.2))/\True))/\qK d19))) /\
         ((decide (d15.1<aD.2.1))=false ->
          (q4 (q4 (q4 (q4 (q4 (q4 (q4 (q4 aD))))))))=dT/\(q4 (q4 (q4 (q4 (q4 (q4 (q4 aD))))))).2.2.2.1=lz/\(q4 (q4 (q4 (q4 (q4 (q4 (q4 aD))))))).2.2.1=w9/\(d15.2.length<=12/\(∀ x∈d15.2,∀ y∈d15.2,(λ(x2:(Int×Int×Bool)×(Int×Int×Bool))=>True) (x,y)))/\(q4 (q4 (q4 (q4 (q4 (q4 (q4 aD))))))).2.1=w8/\∃ (ao:Int) (cX:(List (Int×Int×Bool))×Int),((True/\True/\(lI (AU Oo d15.2 0 d15.2.length))=ao/\(0:Int)=cX.2/\True)/\(((q4 aD).1=hk/\True/\(([]:List SV)=[]))/\((AU Oo d15.2 0 d15.2.length)=cX.1/\(List.isEmpty d15.2)=(List.isEmpty cX.1))/\((q4 aD).2.2.1=(0:Int)/\True/\(([]:List SV)=[]))/\True)) /\
          LoopP (λ(d22:(List (Int×Int×Bool))×Int) (gJ:((List (Int×Int×Bool))×Int)->Prop) =>
           ((decide (d22.2<ao))=true ->
            (0<=d22.2)/\(d22.2<(List.length d22.1))/\(I64 (d22.2+(1:Int)))/\(∃ d23:(List (Int×Int×Bool))×Int,((True/\True/\ao=ao/\(d22.2+(1:Int))=d23.2/\True)/\((hk=hk/\True/\(([]:List SV)=[]))/\((sT d22.1 d22.2 ((gD d22.1 d22.2 (0,(0,false))).1,((gD d22.1 d22.2 (0,(0,false))).2.1,false)))=d23.1/\(List.isEmpty d22.1)=(List.isEmpty d23.1))/\((0:Int)=(0:Int)/\True/\(([]:List SV)=[]))/\True))/\gJ d23)) /\
           ((decide (d22.2<ao))=false ->
            (((hk=(VR hk cs)/\True/\(([]:List SV)=[]))/\(0:Int)=(QQ hk cs)/\(([]:List SV)=[]))/\((d22.1=(Wt hk cs)/\(List.isEmpty d22.1)=(Wt hk cs).isEmpty)/\True)))) cX)) dU)))) d50))))
def Xs:Cx:=⟨[(1000018,(.pair (.i .i64) .bo))],[(26,QD),(57,QL)],43,[3000015],0,[(33,KX)],[],[],[],false,[],[],[15],[]⟩
def Xt:List (Nat×LoopAnn):=[(0,⟨Int×(List (Int×Int×Bool))×Int×Int×Int×(List (Int×Int×Bool))×Int×(List (Int×Int×Bool))×Int×Int×(List (Int×Int×Bool))×Int×(List (Int×Int×Bool))×Int×Int×Int×(List (Int×Int×Bool))×(List Value),(List (Int×Bool))×Int,[1,2,4,6,20,21,22],λe x=>[.box 1000001 0,.box 1000002 0,.box 1000004 0,.map 1000018,.val (.list (.pair (.i .i64) (.pair (.i .i64) .bo))) e.2.2.2.2.2.2.2.1,.val (.i .i64) e.2.2.2.2.2.2.2.2.1,.val (.i .i64) x.2],λe x=>[(1000001,.slot 1,.cells [.val (.i .i64) e.1,.val (.list (.pair (.i .i64) (.pair (.i .i64) .bo))) e.2.1] (some 36)),(1000002,.slot 2,.cells [.val (.i .i64) e.2.2.1,.nilS,.val (.i .i64) e.2.2.2.1] (some 77)),(1000004,.slot 4,.cells [.val (.i .i64) e.2.2.2.2.1,.val (.list (.pair (.i .i64) (.pair (.i .i64) .bo))) e.2.2.2.2.2.1,.val (.i .i64) e.2.2.2.2.2.2.1] (some 77)),(1000018,.slot 6,.map (.i .i64) .bo x.1),(999999,.key 999999,.stk [.agg [.val (.i .i64) e.2.2.2.2.2.2.2.2.2.1,.val (.list (.pair (.i .i64) (.pair (.i .i64) .bo))) e.2.2.2.2.2.2.2.2.2.2.1],.box 1 0,.box 2 0,.val (.i .i64) e.2.2.2.2.2.2.2.2.2.2.2.2.2.2.1,.any,.any,.any,.any,.agg [.val (.i .i64) e.2.2.2.2.2.2.2.2.2.2.2.2.2.2.2.1,.val (.list (.pair (.i .i64) (.pair (.i .i64) .bo))) e.2.2.2.2.2.2.2.2.2.2.2.2.2.2.2.2.1],.any,.any,.any,.any,.any,.any,.any,.any,.any,.any,.any,.any,.any,.any,.any,.any,.any,.any,.any,.any,.any,.any,.any,.any,.any] e.2.2.2.2.2.2.2.2.2.2.2.2.2.2.2.2.2),(1,.key 1,.cells [.val (.i .i64) e.2.2.2.2.2.2.2.2.2.2.2.1,.val (.list (.pair (.i .i64) (.pair (.i .i64) .bo))) e.2.2.2.2.2.2.2.2.2.2.2.2.1] (some 36)),(2,.key 2,.cells [.val (.i .i64) e.2.2.2.2.2.2.2.2.2.2.2.2.2.1,.nilS] (some 36))]⟩)]
def QI:Cx:=⟨[],[],4,[],0,[],[],[],[],false,[],[],[],[]⟩
def QH:List (Nat×LoopAnn):=[]
def Q4:Cx:=⟨[],[],16,[],0,[],[],[],[],false,[],[],[],[]⟩
def Q3:List (Nat×LoopAnn):=[(0,⟨(List (Int×Int×Bool))×Int×Int×(List (Int×Int×Bool))×Int×(List (Int×Int×Bool))×Int×Int×Int×(List (Int×Int×Bool))×Int×Int×Int×(List (Int×Int×Bool))×Int×Int×Int×(List (Int×Int×Bool))×Int×(List (Int×Int×Bool))×Int×Int×Int×(List (Int×Int×Bool))×Int×Int×Int×(List (Int×Int×Bool))×(List (Int×Int×Bool))×(List Value)×(List Value)×(List Value)×LpD,Int×(List (Int×Int×Bool)),[0,5,6,7],λe x=>[.dd 20000080002500000 .yv,.val (.list (.pair (.i .i64) (.pair (.i .i64) .bo))) e.1,.val (.i .i64) e.2.1,.val (.i .i64) x.1],λe x=>[(1999999,.key 1999999,.stk [.agg [.val (.i .i64) e.2.2.1,.val (.list (.pair (.i .i64) (.pair (.i .i64) .bo))) e.2.2.2.1],.box 1 0,.box 2 0,.val (.i .i64) e.2.2.2.2.2.2.2.1,.box 4 0,.val (.i .i64) e.2.2.2.2.2.2.2.2.2.2.2.1,.any,.tup [.agg [.val (.i .i64) e.2.2.2.2.2.2.2.2.2.2.2.2.1,.val (.list (.pair (.i .i64) (.pair (.i .i64) .bo))) e.2.2.2.2.2.2.2.2.2.2.2.2.2.1,.val (.i .i64) e.2.2.2.2.2.2.2.2.2.2.2.2.2.2.1],.val (.i .i64) e.2.2.2.2.2.2.2.2.2.2.2.2.2.2.2.1],.agg [.val (.i .i64) e.2.2.2.2.2.2.2.2.2.2.2.2.2.2.2.2.1,.val (.list (.pair (.i .i64) (.pair (.i .i64) .bo))) e.2.2.2.2.2.2.2.2.2.2.2.2.2.2.2.2.2.1],.tup [.agg [.val (.i .i64) e.2.2.2.2.2.2.2.2.2.2.2.2.2.2.2.2.2.2.1,.val (.list (.pair (.i .i64) (.pair (.i .i64) .bo))) e.2.2.2.2.2.2.2.2.2.2.2.2.2.2.2.2.2.2.2.1,.val (.i .i64) e.2.2.2.2.2.2.2.2.2.2.2.2.2.2.2.2.2.2.2.2.1],.val (.i .i64) e.2.2.2.2.2.2.2.2.2.2.2.2.2.2.2.2.2.2.2.2.2.1],.agg [.val (.i .i64) e.2.2.2.2.2.2.2.2.2.2.2.2.2.2.2.2.2.2.2.2.2.2.1,.val (.list (.pair (.i .i64) (.pair (.i .i64) .bo))) e.2.2.2.2.2.2.2.2.2.2.2.2.2.2.2.2.2.2.2.2.2.2.2.1,.val (.i .i64) e.2.2.2.2.2.2.2.2.2.2.2.2.2.2.2.2.2.2.2.2.2.2.2.2.1],.val (.i .i64) e.2.2.2.2.2.2.2.2.2.2.2.2.2.2.2.2.2.2.2.2.2.2.2.2.2.1,.val (.i .i64) e.2.2.2.2.2.2.2.2.2.2.2.2.2.2.2.2.2.2.2.2.2.2.2.2.2.2.1,.any,.any,.any,.box 1 1,.val (.list (.pair (.i .i64) (.pair (.i .i64) .bo))) e.2.2.2.2.2.2.2.2.2.2.2.2.2.2.2.2.2.2.2.2.2.2.2.2.2.2.2.1,.fn 55 [] [.box 1900001 0],.any,.any,.any,.any,.any,.any,.any,.any,.any,.any,.any,.any,.any,.any,.any] e.2.2.2.2.2.2.2.2.2.2.2.2.2.2.2.2.2.2.2.2.2.2.2.2.2.2.2.2.2.1),(1,.key 1,.cells [.val (.i .i64) e.2.2.2.2.1,.val (.list (.pair (.i .i64) (.pair (.i .i64) .bo))) e.2.2.2.2.2.1] (some 36)),(2,.key 2,.cells [.val (.i .i64) e.2.2.2.2.2.2.1,.nilS] (some 36)),(4,.key 4,.cells [.val (.i .i64) e.2.2.2.2.2.2.2.2.1,.val (.list (.pair (.i .i64) (.pair (.i .i64) .bo))) e.2.2.2.2.2.2.2.2.2.1,.val (.i .i64) e.2.2.2.2.2.2.2.2.2.2.1] (some 77)),(1900001,.key 1900001,.cells [.val (.list (.pair (.i .i64) (.pair (.i .i64) .bo))) e.2.2.2.2.2.2.2.2.2.2.2.2.2.2.2.2.2.2.2.2.2.2.2.2.2.2.2.2.1] (some 34)),(200000799999,.key 200000799999,.stk [.fn 55 [] [.box 1900001 0],.fn 31 [] [],.any,.any,.nilS,.any,.fn 55 [] [.box 1900001 0],.any,.any,.any,.any,.any] e.2.2.2.2.2.2.2.2.2.2.2.2.2.2.2.2.2.2.2.2.2.2.2.2.2.2.2.2.2.2.1),(20000080000499999,.key 20000080000499999,.stk [.fn 55 [] [.box 1900001 0],.any,.nilS,.fn 55 [] [.box 1900001 0],.any] e.2.2.2.2.2.2.2.2.2.2.2.2.2.2.2.2.2.2.2.2.2.2.2.2.2.2.2.2.2.2.2.1),(20000080002500000,.key 20000080002500000,.lpf [.nilS,.fn 55 [] [.box 1900001 0],.box 20000080000500002 0,.any,.nilS,.any,.fn 55 [] [.box 1900001 0],.any,.any,.any,.any,.any,.any] e.2.2.2.2.2.2.2.2.2.2.2.2.2.2.2.2.2.2.2.2.2.2.2.2.2.2.2.2.2.2.2.2 .rdy),(20000080000500002,.key 20000080000500002,.cells [.lst 20000080000500011] (some 34)),(20000080000500011,.cell 20000080000500002 0,.lst 69 (.pair (.i .i64) (.pair (.i .i64) .bo)) x.2 (List.isEmpty x.2))]⟩)]
def Q9:Cx:=⟨[(69,(.pair (.i .i64) (.pair (.i .i64) .bo)))],[],13,[],0,[],[],[],[],false,[],[(55,Z6i Q4 Q3 c55 16)],[],[]⟩
def Qa:List (Nat×LoopAnn):=[]
def Qm:Cx:=⟨[],[],5,[],0,[(75,Q5s Q9 (λ_=>Qa) c75 [.tmp 4] 13)],[],[],[],false,[],[],[],[]⟩
def Ql:List (Nat×LoopAnn):=[]
def Zf:Cx:=⟨[],[(31,KA)],12,[],0,[(53,Q5s Qm (λ_=>Ql) c53 [.tmp 2] 5),(54,QA)],[],[],[],false,[],[],[],[]⟩
def Ze:List (Nat×LoopAnn):=[]
def Rt:Cx:=⟨[],[],34,[3000013],0,[(28,Q5s Xs (λ_=>Xt) c28 [.cell 2 true 3,.tmp 3] 43),(30,Q5s QI (λ_=>QH) c30 [.tmp 2] 4),(29,Q5s Zf (λ_=>Ze) c29 [.tmp 4] 12)],[],[],[],false,[],[],[13],[]⟩
def Q04 (hk:Int) (cs:List (Int×Int×Bool)):List (Nat×LoopAnn):=[(0,⟨Int,(List (Int×Int×Bool))×Int,[1,2,23,24],λe x=>[.box 1 0,.box 2 0,.val (.i .i64) e,.val (.i .i64) x.2],λe x=>[(1,.slot 1,.cells [.val (.i .i64) hk,.lst 20000080000500011] (some 36)),(20000080000500011,.cell 1 1,.lst 69 (.pair (.i .i64) (.pair (.i .i64) .bo)) x.1 (List.isEmpty x.1)),(2,.slot 2,.cells [.val (.i .i64) (0:Int),.nilS] (some 36))]⟩)]
theorem OH (d:Int×List (Int×Int×Bool)):gwp (Rt) (Q04 d.1 d.2) c11 0 (Wj [.cell 2 true 2,.tmp 3] (PF d) (Pf d)) (Qp 34 (AL.can Rj d))=VM d.1 d.2:=by kernel_rfl
abbrev OY:Prop:=OkC Tryz.prog 11 Be
theorem Og (h:∀ (hk:Int) (cs:List (Int×Int×Bool)),(cs.length<=1000/\(QQ hk cs=0->cs.length<=12))->VM hk cs):OkC Tryz.prog 11 Be :=
 Qs Z92 mixed (C:=Rt) (V:=λ(d:Int×List (Int×Int×Bool))=>VM d.1 d.2) ⟨.nil,(XsOk.cons (Vc Z7j mixed (C:=Xs) ⟨(.cons Z0 (.cons Zl .nil)),(XsOk.cons KH XsOk.nil),ItsOk.nil,YlOk.nil,IysOk.nil,XfOk.nil⟩ (λ_=>Xt)) (XsOk.cons (Vc J0p mixed (C:=QI) ⟨.nil,XsOk.nil,ItsOk.nil,YlOk.nil,IysOk.nil,XfOk.nil⟩ (λ_=>QH)) (XsOk.cons (Vc J0w mixed (C:=Zf) ⟨(.cons Bc .nil),(XsOk.cons (Vc Z86 mixed (C:=Qm) ⟨.nil,(XsOk.cons (Vc Z9w mixed (C:=Q9) ⟨.nil,XsOk.nil,ItsOk.nil,YlOk.nil,(IysOk.cons (OQ Z90 mixed (C:=Q4) ⟨.nil,XsOk.nil,ItsOk.nil,YlOk.nil,IysOk.nil,XfOk.nil⟩ Q3) IysOk.nil),XfOk.nil⟩ (λ_=>Qa)) XsOk.nil),ItsOk.nil,YlOk.nil,IysOk.nil,XfOk.nil⟩ (λ_=>Ql)) (XsOk.cons Jv XsOk.nil)),ItsOk.nil,YlOk.nil,IysOk.nil,XfOk.nil⟩ (λ_=>Ze)) XsOk.nil))),ItsOk.nil,YlOk.nil,IysOk.nil,XfOk.nil⟩ (OH) λd hp=>h d.1 d.2 hp
end Go.Proofs.Tryz
namespace Go.Proofs.Tryz
open Go Go.V Go.Proofs
set_option maxHeartbeats 2000000 in
theorem Q05:OY:=Og λhk cs h=>by
 obtain⟨h,kI⟩:=h;have cY:∀ e:Int,QQ hk cs=e->e≠0->0=VR hk cs/\(e=QQ hk cs)/\Wt hk cs=[]/\(Wt hk cs).isEmpty=true:=λe h1 h2=>by
  have:Wt hk cs=[]:=by unfold Wt;rw[z0 (by omega)]
  exact⟨by unfold VR;rw[z0 (by omega)],h1.symm,this,by rw[this];rfl⟩
 have bh:∀ e:Int,QG hk cs=e->e≠0->QQ hk cs=e:=λe h1 h2=>by unfold QQ;rw[z2 (by omega)];exact h1
 unfold VM
 (try delta U3 OW Ho HF OX IG Oo IC q4)
 (try delta lI gD sT I64 Q2 pj8 pj4)
 intro w1 w2;repeat (first|refine⟨trivial,?_⟩|refine⟨rfl,?_⟩)
 refine⟨λc1=>?_,λc1=>?_⟩
 .have e:QG hk cs=3:=by unfold QG;rw[z2 c1]
  obtain⟨t,u,v,w⟩:=cY 3 (bh 3 e (by decide)) (by decide);and_intros<;>first|rfl|trivial|assumption
 repeat (first|refine⟨trivial,?_⟩|refine⟨rfl,?_⟩)
 refine⟨λc2=>?_,λc2=>?_⟩
 .have c2:60<cs.length:=by have:=z7 c2;omega
  have e:QG hk cs=5:=by unfold QG;rw[z0 (by rw[c1];decide),z2 c2]
  obtain⟨t,u,v,w⟩:=cY 5 (bh 5 e (by decide)) (by decide);and_intros<;>first|rfl|trivial|assumption
 have c2:cs.length<=60:=by have:=z6 c2;omega
 obtain⟨i1,i2⟩:=SN c1;repeat (first|refine⟨trivial,?_⟩|refine⟨rfl,?_⟩)
 refine⟨⟨i1,i2,by omega⟩,λc3=>?_,λc3=>?_⟩
 .obtain⟨t,u,v,w⟩:=cY 2 (bh 2 (O4 c1 c2 c3) (by decide)) (by decide);and_intros<;>first|rfl|trivial|assumption
 obtain⟨be,b3,av⟩:=Cq c1 c2 c3;repeat (first|refine⟨trivial,?_⟩|refine⟨rfl,?_⟩)
 refine⟨(hk,cs,0,0,hk,cs,hk,cs,(cs.length:Int),hk,cs,hk,cs,0,0,hk,cs,w1),([],0),by and_intros<;>first|rfl|trivial,?_⟩;refine⟨λd=>∃ k:Nat,k<=cs.length/\d.2=(k:Int)/\SeenI (cs.map (·.1)) d.1 k,λd=>cs.length-d.2.toNat,⟨0,by omega,rfl,SeenI.nil _⟩,?_⟩;rintro⟨mm,_⟩ ⟨k,bn,rfl,hS⟩;dsimp only at hS |-;refine⟨λc=>?_,λc=>?_⟩
 .have aj:k<cs.length:=by have:=z7 c;omega
  have hp:=hS.put (by simpa using aj);have eg:(cs.map (·.1)).getD k 0=(cs.getD k (0,(0,false))).1:=by
   rw[Qg (by simpa using aj),Qg aj,xq]
  rw[eg] at hp;simp only[z4];exact⟨by omega,by omega,by rw[Q7];omega,(Dk (.i .i64) mm (cs.getD k (0,(0,false))).1 true,(k:Int)+1),by and_intros<;>first|rfl|trivial,⟨k+1,aj,rfl,hp⟩,by dsimp only;omega⟩
 .have aC:k=cs.length:=by have:=z6 c;omega
  subst aC;have hl:(cs.map (·.1)).length=cs.length:=xR ..;rw[<-hl] at hS;obtain⟨f1,f2⟩:=hS.full;rw[hl] at f2;refine⟨λc4=>?_,λc4=>?_⟩
  .rw[f1] at c4;have e:QQ hk cs=9:=by unfold QQ;rw[z0 (by omega),z2 (z7 c4)]
   obtain⟨t,u,v,w⟩:=cY 9 e (by decide);and_intros<;>first|rfl|trivial|assumption
  rw[f1] at c4;have c4:=z6 c4;refine⟨λc5=>?_,λc5=>?_⟩
  .rw[f2] at c5;have e:QQ hk cs=6:=by unfold QQ;rw[z0 (by omega),z0 c4,z0 (z7 c5)]
   obtain⟨t,u,v,w⟩:=cY 6 e (by decide);and_intros<;>first|rfl|trivial|assumption
  rw[f2] at c5;have gv:(cs.map (·.1)).Nodup:=Decidable.not_not.1 (z6 c5);have en:QQ hk cs=0:=by unfold QQ;rw[z0 (by omega),z0 c4,z2 gv]
  have em:Wt hk cs=Z0v cs:=by unfold Wt;rw[z2 en]
  have eh:VR hk cs=hk:=by unfold VR;rw[z2 en]
  have kI:=kI en;rw[en,em,eh];clear hS f1 f2;repeat (first|refine⟨trivial,?_⟩|refine⟨rfl,?_⟩)
  intro w7;repeat (first|refine⟨trivial,?_⟩|refine⟨rfl,?_⟩)
  intro w8 w9 lz dT;refine⟨(cs,(cs.length:Int),hk,cs,hk,cs,0,0,hk,cs,hk,0,hk,cs,hk,0,hk,cs,hk,cs,hk,0,hk,cs,hk,0,0,cs,cs,w8,w9,lz,dT),(0,[]),by and_intros<;>first|rfl|trivial,?_⟩;refine⟨λd=>∃ k:Nat,k<=cs.length/\d=((k:Int),cs.take k),λd=>cs.length-d.1.toNat,⟨0,by omega,rfl⟩,?_⟩;rintro _ ⟨k,bn,rfl⟩;refine⟨λc=>?_,λc=>?_⟩
  .have aj:k<cs.length:=by have:=z7 c;dsimp only at this;omega
   refine⟨by show (0:Int)<=(k:Int);omega,by show (k:Int)<(cs.length:Int);omega,rfl,?_⟩;intro uT;refine⟨by show ((cs.take k).length+1)*24<=70368744177664;rw[wD];omega,?_⟩;repeat (first|refine⟨rfl,?_⟩|refine⟨trivial,?_⟩)
   refine⟨(λc=>by simp at c),λ_=>?_⟩;refine⟨by rw[Q7];show _<=(k:Int)+1/\(k:Int)+1<=_;omega,((k:Int)+1,cs.take (k+1)),?_,⟨k+1,aj,rfl⟩,by show cs.length-((k:Int)+1).toNat<cs.length-(k:Int).toNat;omega⟩;have e2:cs.take (k+1)=cs.take k++[cs.getD k (0,(0,false))]:=by rw[XJ aj,Qg aj]
   rw[e2];and_intros<;>first|rfl|trivial|simp
  .have aC:k=cs.length:=by have:=z6 c;dsimp only at this;omega
   subst aC;rw[List.take_length];have hp:=CW (f:=Q7r) (a:=0) (z5 cs.length);have fT:=hp.length_eq;have fW:Z0v cs=(AU Q7r cs 0 cs.length).map λc=>((c.1,(c.2.1,false)):YQ):=rfl;repeat (first|refine⟨rfl,?_⟩|refine⟨trivial,?_⟩)
   refine⟨⟨kI,λ_ _ _ _=>trivial⟩,?_⟩;repeat (first|refine⟨rfl,?_⟩|refine⟨trivial,?_⟩)
   have aK:cs.isEmpty=false:=by cases cs with
    |nil=>exact(b3 rfl).elim
    |cons _ _=>rfl
   have n8:(AU Q7r cs 0 cs.length).isEmpty=false:=by rw[<-aK];exact Bool.eq_iff_iff.2 (by rw[List.isEmpty_iff,List.isEmpty_iff,<-x5,<-x5,fT])
   refine⟨((AU Q7r cs 0 cs.length).length:Int),(AU Q7r cs 0 cs.length,0),by and_intros<;>first|rfl|trivial|exact aK.trans n8.symm,?_⟩;generalize hS:AU Q7r cs 0 cs.length=S at *
   refine⟨λd=>∃ k:Nat,k<=S.length/\d=((S.take k).map (λc=>((c.1,(c.2.1,false)):YQ))++S.drop k,(k:Int)),λd=>S.length-d.2.toNat,⟨0,by omega,by simp⟩,?_⟩;rintro _ ⟨k,bn,rfl⟩;have su:((S.take k).map (λc=>((c.1,(c.2.1,false)):YQ))++S.drop k).length=S.length:=by simp;omega
   refine⟨λc=>?_,λc=>?_⟩
   .have aj:k<S.length:=by have:=z7 c;dsimp only at this;omega
    have uU:((S.take k).map (λc=>((c.1,(c.2.1,false)):YQ))++S.drop k).getD k (0,(0,false))=S[k]:=by rw[Qg (by omega),List.getElem_append_right (by simp;omega)];simp[xF (Nat.le_of_lt aj)]
    have aY:((S.take k).map (λc=>((c.1,(c.2.1,false)):YQ))++S.drop k).set k (S[k].1,(S[k].2.1,false))=(S.take (k+1)).map (λc=>((c.1,(c.2.1,false)):YQ))++S.drop (k+1):=by rw[List.set_append_right _ _ (by simp;omega),XJ aj,xw,zX,xK aj];simp[xF (Nat.le_of_lt aj)];rw[xK aj,List.set_cons_zero]
    generalize hL:(S.take k).map (λc=>((c.1,(c.2.1,false)):YQ))++S.drop k=L at *
    generalize uV:(S.take (k+1)).map (λc=>((c.1,(c.2.1,false)):YQ))++S.drop (k+1)=L' at *
    have e1:L.set k ((L.getD k (0,(0,false))).1,((L.getD k (0,(0,false))).2.1,false))=L':=by rw[uU];exact aY
    have l1:L'.length=S.length:=by rw[<-aY,xc];exact su
    have e2:L.isEmpty=L'.isEmpty:=Bool.eq_iff_iff.2 (by rw[List.isEmpty_iff,List.isEmpty_iff,<-x5,<-x5,su,l1]);exact⟨by show (0:Int)<=(k:Int);omega,by show (k:Int)<(L.length:Int);omega,by rw[Q7];show _<=(k:Int)+1/\(k:Int)+1<=_;omega,(L',(k:Int)+1),by and_intros<;>first|rfl|trivial|exact e1|exact e2,⟨k+1,aj,by rw[uV];rfl⟩,by show S.length-((k:Int)+1).toNat<S.length-(k:Int).toNat;omega⟩
   .have aC:k=S.length:=by have:=z6 c;dsimp only at this;omega
    subst aC;rw[List.take_length,List.drop_length,xn,<-fW];have lY:(Z0v cs).isEmpty=false:=by rw[fW,List.isEmpty_map];exact n8
    and_intros<;>first|rfl|trivial|exact lY
def UB:AL ((Int×(List (Int×Int×Bool))×Int)×Int):=(.cons (.agg (.cons (.k (.i .i64)) (.cons (.k (.list (.pair (.i .i64) (.pair (.i .i64) .bo)))) (.one (.k (.i .i64)))))) (.one (.k (.i .i64))))
def PY (m:List (Int×Bool)) (a:(Int×(List (Int×Int×Bool))×Int)×Int):Prop:=0<=a.2/\a.2<a.1.2.1.length/\a.1.2.1.length<=1000
def UH (m:List (Int×Bool)) (a:(Int×(List (Int×Int×Bool))×Int)×Int):SV:=.val (.i .i64) (Q09 (nmC a.1.2.1) (woM m) a.1.2.1.length a.2.toNat a.1.2.1.length)
def Vo (m:List (Int×Bool)) (a:(Int×(List (Int×Int×Bool))×Int)×Int) (m2:List (Int×Bool)):Prop:=m2=m
def Kj:XSp:=Q64 Sx 2 (.i .i64) .bo (Z6a UB PY UH Vo)
def Xx (m:List (Int×Bool)) (hk:Int) (cs:List (Int×Int×Bool)) (f:Int) (fi:Int):Prop:=∀ vals:List Value,
 (0<=(lI cs))/\((lI cs)<=(lI cs))/\((lI cs)*8<=70368744177664)/\((lI cs)<=70368744177664)/\(0<=fi)/\(fi<(List.length (List.replicate (Int.toNat (lI cs)) (0:Int))))/\∀ w1:List Value,w1=w1/\∀ w2:LpD,∃ (e5:Int×(List (Int×Int×Bool))×Int×Int×Int×Int×(List (Int×Int×Bool))×Int×Int×(List (Int×Bool))×Int×(List (Int×Int×Bool))×Int×(List (Int×Int×Bool))×Int×Int×Int×(List (Int×Int×Bool))×Int×Int×LpD×(List Value)) (d50:Int×Int×(List Int)),((True/\True/\True/\(lI cs)=(pj4 e5).1/\(0:Int)=d50.1/\True)/\((hk=e5.1/\cs=e5.2.1/\f=e5.2.2.1/\(([]:List SV)=[]))/\(fi=e5.2.2.2.1/\(([]:List SV)=[]))/\((pj4 (Q2 e5)).1=w2/\((hk=(pj4 e5).2.1/\cs=(pj4 e5).2.2.1/\f=(pj4 e5).2.2.2.1/\(([]:List SV)=[]))/\fi=(pj8 e5).1/\True/\True/\True/\True/\True/\True/\True/\True/\True/\True/\True/\cs=(pj4 (pj8 e5)).2.1/\(lI cs)=(pj4 (pj8 e5)).2.2.1/\True/\True/\fi=(pj4 (pj8 e5)).2.2.2.1/\True/\(hk=(Q2 e5).1/\cs=(Q2 e5).2.1/\f=(Q2 e5).2.2.1/\(([]:List SV)=[]))/\fi=(Q2 e5).2.2.2.1/\(((([]:List SV)=[]))/\(True/\True/\(([]:List SV)=[])))/\True/\True/\True/\True/\True/\True/\True/\True/\True/\True/\True/\True/\True/\True/\True/\True/\True/\True/\True/\True/\True/\True/\True/\True/\True/\True/\True/\True/\True/\True/\True/\True/\True/\True/\True/\True/\True/\True/\True/\True/\True/\True/\True/\True/\True/\True/\True/\True/\True/\True/\True/\(([]:List SV)=[])))/\(m=(pj8 e5).2.1)/\(hk=(pj8 e5).2.2.1/\cs=(pj8 e5).2.2.2.1/\f=(pj4 (pj8 e5)).1/\(([]:List SV)=[]))/\(True/\(([]:List SV)=[]))/\((0:Int)=d50.2.1/\(([]:List SV)=[]))/\(True/\(([]:List SV)=[]))/\((sT (List.replicate (Int.toNat (lI cs)) (0:Int)) fi (1:Int))=d50.2.2/\false=false)/\((pj4 (Q2 e5)).2=vals/\(True/\(([]:List SV)=[])))/\True)) /\
 LoopP (λ(d5:Int×Int×(List Int)) (q5:(Int×Int×(List Int))->Prop) =>
  ((decide (d5.1<(pj4 e5).1))=true ->
   (e5.2.1≠[]/\e5.2.1.length<=1000/\-1000000<=e5.2.2.2.1/\e5.2.2.2.1<=1000000/\-1000000<=d5.1/\d5.1<=1000000)/\(pj4 (Q2 e5)).1=w2/\∀ w6:List Value,∃ (e9:Int×Int×Int×LpD×Int×Int×Bool×Int×Int×Int×(List Value)) (d90:(List Int)×Int),((True/\True/\True/\True/\(Int.tmod (e5.2.2.2.1+d5.1) e5.2.1.length)=e9.2.1/\True/\(lI d5.2.2)=e9.2.2.1/\(0:Int)=d90.2/\True)/\(((pj8 e5).2.2.1=hk/\(pj8 e5).2.2.2.1=cs/\(pj4 (pj8 e5)).1=f/\(([]:List SV)=[]))/\(True/\(([]:List SV)=[]))/\((pj8 e5).2.1=m)/\(d5.2.1=e9.1/\(([]:List SV)=[]))/\(True/\(([]:List SV)=[]))/\(d5.2.2=d90.1/\false=false)/\(e9.2.2.2.1=(pj4 (Q2 e5)).1/\(((pj4 e5).2.1=hk/\(pj4 e5).2.2.1=cs/\(pj4 e5).2.2.2.1=f/\(([]:List SV)=[]))/\(pj8 e5).1=fi/\True/\True/\True/\True/\True/\True/\True/\True/\True/\True/\True/\(pj4 (pj8 e5)).2.1=cs/\(pj4 (pj8 e5)).2.2.1=(lI cs)/\True/\True/\(pj4 (pj8 e5)).2.2.2.1=fi/\True/\((Q2 e5).1=hk/\(Q2 e5).2.1=cs/\(Q2 e5).2.2.1=f/\(([]:List SV)=[]))/\(Q2 e5).2.2.2.1=fi/\(((([]:List SV)=[]))/\(True/\True/\(([]:List SV)=[])))/\True/\True/\True/\True/\True/\True/\True/\True/\True/\True/\True/\True/\True/\True/\True/\True/\True/\True/\True/\True/\True/\True/\True/\True/\True/\True/\True/\True/\True/\True/\True/\True/\True/\True/\True/\True/\True/\True/\True/\True/\True/\True/\True/\True/\True/\True/\True/\True/\True/\True/\True/\(([]:List SV)=[])))/\(e5.1=hk/\e5.2.1=cs/\e5.2.2.1=f/\(([]:List SV)=[]))/\(e5.2.2.2.1=fi/\(([]:List SV)=[]))/\(vals=(pj4 (Q2 e5)).2/\(True/\(([]:List SV)=[])))/\((pj8 e9).2.2=w6/\(True/\True/\True/\True/\d5.1=(pj4 e9).1/\True/\True/\True/\(pj4 e5).1=(lI cs)/\d5.1=(pj4 e9).2.1/\(decide (d5.1<(pj4 e5).1))=(pj4 e9).2.2.1/\d5.1=(pj4 e9).2.2.2.1/\True/\(e5.1=hk/\e5.2.1=cs/\e5.2.2.1=f/\(([]:List SV)=[]))/\e5.2.2.2.1=fi/\d5.1=(pj8 e9).1/\(Int.tmod (e5.2.2.2.1+d5.1) e5.2.1.length)=(pj8 e9).2.1/\True/\True/\True/\(([]:List SV)=[])))/\True)) /\
   LoopP (λ(d9:(List Int)×Int) (q9:((List Int)×Int)->Prop) =>
    ((decide (d9.2<e9.2.2.1))=true ->
     (0<=d9.2)/\(d9.2<(List.length d9.1))/\(((decide ((gD d9.1 d9.2 0) > (0:Int)))&&(!(gq.aget (.i .i64) m e9.2.1 false)))=true->0<=e9.2.1)/\(((decide ((gD d9.1 d9.2 0) > (0:Int)))&&(!(gq.aget (.i .i64) m e9.2.1 false)))=true->e9.2.1<(List.length cs))/\(((decide ((gD d9.1 d9.2 0) > (0:Int)))&&(!(gq.aget (.i .i64) m e9.2.1 false)))=true->0<=d9.2)/\(((decide ((gD d9.1 d9.2 0) > (0:Int)))&&(!(gq.aget (.i .i64) m e9.2.1 false)))=true->d9.2<(List.length cs))/\((((decide ((gD d9.1 d9.2 0) > (0:Int)))&&(!(gq.aget (.i .i64) m e9.2.1 false)))&&(decide ((gD cs e9.2.1 (0,(0,false))).1 > (gD cs d9.2 (0,(0,false))).1)))=true ->
      (0<=e9.2.1)/\(e9.2.1<(List.length d9.1))/\(I64 ((gD d9.1 d9.2 0)+(1:Int)))/\(0<=e9.2.1)/\(e9.2.1<(List.length d9.1))/\(I64 (d9.2+(1:Int)))/\(∃ d10:(List Int)×Int,((True/\True/\True/\True/\e9.2.1=e9.2.1/\True/\e9.2.2.1=e9.2.2.1/\(d9.2+(1:Int))=d10.2/\True)/\((hk=hk/\cs=cs/\f=f/\(([]:List SV)=[]))/\(True/\(([]:List SV)=[]))/\(m=m)/\(e9.1=e9.1/\(([]:List SV)=[]))/\(True/\(([]:List SV)=[]))/\((sT d9.1 e9.2.1 (LD (gD d9.1 e9.2.1 0) ((gD d9.1 d9.2 0)+(1:Int))))=d10.1/\false=false)/\(e9.2.2.2.1=e9.2.2.2.1/\((hk=hk/\cs=cs/\f=f/\(([]:List SV)=[]))/\fi=fi/\True/\True/\True/\True/\True/\True/\True/\True/\True/\True/\True/\cs=cs/\(lI cs)=(lI cs)/\True/\True/\fi=fi/\True/\(hk=hk/\cs=cs/\f=f/\(([]:List SV)=[]))/\fi=fi/\(((([]:List SV)=[]))/\(True/\True/\(([]:List SV)=[])))/\True/\True/\True/\True/\True/\True/\True/\True/\True/\True/\True/\True/\True/\True/\True/\True/\True/\True/\True/\True/\True/\True/\True/\True/\True/\True/\True/\True/\True/\True/\True/\True/\True/\True/\True/\True/\True/\True/\True/\True/\True/\True/\True/\True/\True/\True/\True/\True/\True/\True/\True/\(([]:List SV)=[])))/\(hk=hk/\cs=cs/\f=f/\(([]:List SV)=[]))/\(fi=fi/\(([]:List SV)=[]))/\(vals=vals/\(True/\(([]:List SV)=[])))/\((pj8 e9).2.2=(pj8 e9).2.2/\(True/\True/\True/\True/\(pj4 e9).1=(pj4 e9).1/\True/\True/\True/\(lI cs)=(lI cs)/\(pj4 e9).2.1=(pj4 e9).2.1/\(pj4 e9).2.2.1=(pj4 e9).2.2.1/\(pj4 e9).2.2.2.1=(pj4 e9).2.2.2.1/\True/\(hk=hk/\cs=cs/\f=f/\(([]:List SV)=[]))/\fi=fi/\(pj8 e9).1=(pj8 e9).1/\(pj8 e9).2.1=(pj8 e9).2.1/\True/\True/\True/\(([]:List SV)=[])))/\True))/\q9 d10)) /\
     ((((decide ((gD d9.1 d9.2 0) > (0:Int)))&&(!(gq.aget (.i .i64) m e9.2.1 false)))&&(decide ((gD cs e9.2.1 (0,(0,false))).1 > (gD cs d9.2 (0,(0,false))).1)))=false ->
      (I64 (d9.2+(1:Int)))/\(∃ d11:(List Int)×Int,((True/\True/\True/\True/\e9.2.1=e9.2.1/\True/\e9.2.2.1=e9.2.2.1/\(d9.2+(1:Int))=d11.2/\True)/\((hk=hk/\cs=cs/\f=f/\(([]:List SV)=[]))/\(True/\(([]:List SV)=[]))/\(m=m)/\(e9.1=e9.1/\(([]:List SV)=[]))/\(True/\(([]:List SV)=[]))/\(d9.1=d11.1/\false=false)/\(e9.2.2.2.1=e9.2.2.2.1/\((hk=hk/\cs=cs/\f=f/\(([]:List SV)=[]))/\fi=fi/\True/\True/\True/\True/\True/\True/\True/\True/\True/\True/\True/\cs=cs/\(lI cs)=(lI cs)/\True/\True/\fi=fi/\True/\(hk=hk/\cs=cs/\f=f/\(([]:List SV)=[]))/\fi=fi/\(((([]:List SV)=[]))/\(True/\True/\(([]:List SV)=[])))/\True/\True/\True/\True/\True/\True/\True/\True/\True/\True/\True/\True/\True/\True/\True/\True/\True/\True/\True/\True/\True/\True/\True/\True/\True/\True/\True/\True/\True/\True/\True/\True/\True/\True/\True/\True/\True/\True/\True/\True/\True/\True/\True/\True/\True/\True/\True/\True/\True/\True/\True/\(([]:List SV)=[])))/\(hk=hk/\cs=cs/\f=f/\(([]:List SV)=[]))/\(fi=fi/\(([]:List SV)=[]))/\(vals=vals/\(True/\(([]:List SV)=[])))/\((pj8 e9).2.2=(pj8 e9).2.2/\(True/\True/\True/\True/\(pj4 e9).1=(pj4 e9).1/\True/\True/\True/\(lI cs)=(lI cs)/\(pj4 e9).2.1=(pj4 e9).2.1/\(pj4 e9).2.2.1=(pj4 e9).2.2.1/\(pj4 e9).2.2.2.1=(pj4 e9).2.2.2.1/\True/\(hk=hk/\cs=cs/\f=f/\(([]:List SV)=[]))/\fi=fi/\(pj8 e9).1=(pj8 e9).1/\(pj8 e9).2.1=(pj8 e9).2.1/\True/\True/\True/\(([]:List SV)=[])))/\True))/\q9 d11))) /\
    ((decide (d9.2<e9.2.2.1))=false ->
     (0<=e9.2.1)/\(e9.2.1<(List.length d9.1))/\(pj8 e9).2.2=w6/\e9.2.2.2.1=w2/\((!true)=true ->
      e9.2.2.2.1=w2/\(vals=vals/\(True/\(([]:List SV)=[]))/\(LD e9.1 (gD d9.1 e9.2.1 0))=(Q09 (nmC cs) (woM m) cs.length fi.toNat cs.length)/\(m=m))) /\
     ((!true)=false ->
      (I64 ((pj4 e9).2.1+(1:Int)))/\(∃ d12:Int×Int×(List Int),((True/\True/\True/\(lI cs)=(pj4 e5).1/\((pj4 e9).2.1+(1:Int))=d12.1/\True)/\((hk=e5.1/\cs=e5.2.1/\f=e5.2.2.1/\(([]:List SV)=[]))/\(fi=e5.2.2.2.1/\(([]:List SV)=[]))/\((pj4 (Q2 e5)).1=e9.2.2.2.1/\((hk=(pj4 e5).2.1/\cs=(pj4 e5).2.2.1/\f=(pj4 e5).2.2.2.1/\(([]:List SV)=[]))/\fi=(pj8 e5).1/\True/\True/\True/\True/\True/\True/\True/\True/\True/\True/\True/\cs=(pj4 (pj8 e5)).2.1/\(lI cs)=(pj4 (pj8 e5)).2.2.1/\True/\True/\fi=(pj4 (pj8 e5)).2.2.2.1/\True/\(hk=(Q2 e5).1/\cs=(Q2 e5).2.1/\f=(Q2 e5).2.2.1/\(([]:List SV)=[]))/\fi=(Q2 e5).2.2.2.1/\(((([]:List SV)=[]))/\(True/\True/\(([]:List SV)=[])))/\True/\True/\True/\True/\True/\True/\True/\True/\True/\True/\True/\True/\True/\True/\True/\True/\True/\True/\True/\True/\True/\True/\True/\True/\True/\True/\True/\True/\True/\True/\True/\True/\True/\True/\True/\True/\True/\True/\True/\True/\True/\True/\True/\True/\True/\True/\True/\True/\True/\True/\True/\(([]:List SV)=[])))/\(m=(pj8 e5).2.1)/\(hk=(pj8 e5).2.2.1/\cs=(pj8 e5).2.2.2.1/\f=(pj4 (pj8 e5)).1/\(([]:List SV)=[]))/\(True/\(([]:List SV)=[]))/\((LD e9.1 (gD d9.1 e9.2.1 0))=d12.2.1/\(([]:List SV)=[]))/\(True/\(([]:List SV)=[]))/\(d9.1=d12.2.2/\false=false)/\((pj4 (Q2 e5)).2=vals/\(True/\(([]:List SV)=[])))/\True))/\q5 d12)))) d90) /\
  ((decide (d5.1<(pj4 e5).1))=false ->
   (pj4 (Q2 e5)).1=w2/\((pj4 (Q2 e5)).2=vals/\(True/\(([]:List SV)=[]))/\d5.2.1=(Q09 (nmC cs) (woM m) cs.length fi.toNat cs.length)/\((pj8 e5).2.1=m)))) d50
def ZQ:Cx:=⟨[],[],6,[],0,[],[],[],[],false,[],[],[],[]⟩
def ZR:List (Nat×LoopAnn):=[]
def ZE:Cx:=⟨[],[(36,Jg)],20,[],0,[],[],[],[],false,[],[],[],[]⟩
def ZH:List (Nat×LoopAnn):=[(0,⟨Int×(List (Int×Int×Bool))×Int×Int×Int×Int×(List (Int×Int×Bool))×Int×Int×(List (Int×Bool))×Int×(List (Int×Int×Bool))×Int×(List (Int×Int×Bool))×Int×Int×Int×(List (Int×Int×Bool))×Int×Int×LpD×(List Value),Int×Int×(List Int),[0,1,2,8,9],λe x=>[.dd 2000000 .yv,.box 2200002 0,.box 2200003 0,.val (.i .i64) e.2.2.2.2.1,.val (.i .i64) x.1],λe x=>[(2200002,.slot 1,.cells [.val (.i .i64) e.1,.val (.list (.pair (.i .i64) (.pair (.i .i64) .bo))) e.2.1,.val (.i .i64) e.2.2.1] (some 77)),(2200003,.slot 2,.cells [.val (.i .i64) e.2.2.2.1] (some 3)),(2000000,.key 2000000,.lpf [.agg [.val (.i .i64) e.2.2.2.2.2.1,.val (.list (.pair (.i .i64) (.pair (.i .i64) .bo))) e.2.2.2.2.2.2.1,.val (.i .i64) e.2.2.2.2.2.2.2.1],.val (.i .i64) e.2.2.2.2.2.2.2.2.1,.map 0,.box 3 0,.any,.box 5 0,.box 6 0,.box 7 0,.any,.any,.any,.box 3 0,.box 3 1,.val (.list (.pair (.i .i64) (.pair (.i .i64) .bo))) e.2.2.2.2.2.2.2.2.2.2.2.2.2.1,.val (.i .i64) e.2.2.2.2.2.2.2.2.2.2.2.2.2.2.1,.lst 15,.lst 15,.val (.i .i64) e.2.2.2.2.2.2.2.2.2.2.2.2.2.2.2.1,.any,.agg [.val (.i .i64) e.2.2.2.2.2.2.2.2.2.2.2.2.2.2.2.2.1,.val (.list (.pair (.i .i64) (.pair (.i .i64) .bo))) e.2.2.2.2.2.2.2.2.2.2.2.2.2.2.2.2.2.1,.val (.i .i64) e.2.2.2.2.2.2.2.2.2.2.2.2.2.2.2.2.2.2.1],.val (.i .i64) e.2.2.2.2.2.2.2.2.2.2.2.2.2.2.2.2.2.2.2.1,.fn 98 [] [.box 2200002 0,.box 2200003 0],.any,.any,.any,.any,.any,.any,.any,.any,.any,.any,.any,.any,.any,.any,.any,.any,.any,.any,.any,.any,.any,.any,.any,.any,.any,.any,.any,.any,.any,.any,.any,.any,.any,.any,.any,.any,.any,.any,.any,.any,.any,.any,.any,.any,.any,.any,.any,.any,.any,.any,.any] e.2.2.2.2.2.2.2.2.2.2.2.2.2.2.2.2.2.2.2.2.1 .rdy),(0,.key 0,.map (.i .i64) .bo e.2.2.2.2.2.2.2.2.2.1),(3,.key 3,.cells [.val (.i .i64) e.2.2.2.2.2.2.2.2.2.2.1,.val (.list (.pair (.i .i64) (.pair (.i .i64) .bo))) e.2.2.2.2.2.2.2.2.2.2.2.1,.val (.i .i64) e.2.2.2.2.2.2.2.2.2.2.2.2.1] (some 77)),(5,.key 5,.cells [.map 0] (some 108)),(6,.key 6,.cells [.val (.i .i64) x.2.1] (some 3)),(7,.key 7,.cells [.lst 15] (some 24)),(15,.cell 7 0,.lst 3 (.i .i64) x.2.2 false),(4000000,.key 4000000,.stk [.map 0] e.2.2.2.2.2.2.2.2.2.2.2.2.2.2.2.2.2.2.2.2.2)]⟩)]
def Nc:Cx:=⟨[(3,(.i .i64))],[],73,[],0,[(82,Q5s ZQ (λ_=>ZR) c82 [.tmp 4] 6)],[],[],[],false,[],[(98,Z6i ZE ZH c98 20)],[],[]⟩
def Na (m:List (Int×Bool)) (hk:Int) (cs:List (Int×Int×Bool)) (f:Int) (fi:Int) (vals:List Value):List (Nat×LoopAnn):=[(2,⟨Int×Int×Int×LpD×Int×Int×Bool×Int×Int×Int×(List Value),(List Int)×Int,[3,5,6,7,8,23,24,25],λe x=>[.box 3 0,.box 5 0,.box 6 0,.box 7 0,.val (.i .i64) e.2.1,.lst 15,.val (.i .i64) e.2.2.1,.val (.i .i64) x.2],λe x=>[(3,.slot 3,.cells [.val (.i .i64) hk,.val (.list (.pair (.i .i64) (.pair (.i .i64) .bo))) cs,.val (.i .i64) f] (some 77)),(5,.slot 5,.cells [.map 0] (some 108)),(0,.cell 5 0,.map (.i .i64) .bo m),(6,.slot 6,.cells [.val (.i .i64) e.1] (some 3)),(7,.slot 7,.cells [.lst 15] (some 24)),(15,.cell 7 0,.lst 3 (.i .i64) x.1 false),(2000000,.key 2000000,.lpf [.agg [.val (.i .i64) hk,.val (.list (.pair (.i .i64) (.pair (.i .i64) .bo))) cs,.val (.i .i64) f],.val (.i .i64) fi,.map 0,.box 3 0,.any,.box 5 0,.box 6 0,.box 7 0,.any,.any,.any,.box 3 0,.box 3 1,.val (.list (.pair (.i .i64) (.pair (.i .i64) .bo))) cs,.val (.i .i64) (((List.length cs):Nat):Int),.lst 15,.lst 15,.val (.i .i64) fi,.any,.agg [.val (.i .i64) hk,.val (.list (.pair (.i .i64) (.pair (.i .i64) .bo))) cs,.val (.i .i64) f],.val (.i .i64) fi,.fn 98 [] [.box 2200002 0,.box 2200003 0],.any,.any,.any,.any,.any,.any,.any,.any,.any,.any,.any,.any,.any,.any,.any,.any,.any,.any,.any,.any,.any,.any,.any,.any,.any,.any,.any,.any,.any,.any,.any,.any,.any,.any,.any,.any,.any,.any,.any,.any,.any,.any,.any,.any,.any,.any,.any,.any,.any,.any,.any] e.2.2.2.1 .busy),(2200002,.key 2200002,.cells [.val (.i .i64) hk,.val (.list (.pair (.i .i64) (.pair (.i .i64) .bo))) cs,.val (.i .i64) f] (some 77)),(2200003,.key 2200003,.cells [.val (.i .i64) fi] (some 3)),(4000000,.key 4000000,.stk [.map 0] vals),(200000099999,.key 200000099999,.stk [.dd 2000000 .yv,.box 2200002 0,.box 2200003 0,.any,.val (.i .i64) e.2.2.2.2.1,.any,.any,.any,.val (.i .i64) (((List.length cs):Nat):Int),.val (.i .i64) e.2.2.2.2.2.1,.val .bo e.2.2.2.2.2.2.1,.val (.i .i64) e.2.2.2.2.2.2.2.1,.dd 2000000 .yv,.agg [.val (.i .i64) hk,.val (.list (.pair (.i .i64) (.pair (.i .i64) .bo))) cs,.val (.i .i64) f],.val (.i .i64) fi,.val (.i .i64) e.2.2.2.2.2.2.2.2.1,.val (.i .i64) e.2.2.2.2.2.2.2.2.2.1,.any,.any,.any] e.2.2.2.2.2.2.2.2.2.2)]⟩)]
theorem Rb (m:List (Int×Bool)) (a:(Int×(List (Int×Int×Bool))×Int)×Int):(∀ vals,gwp Nc (Na m a.1.1 a.1.2.1 a.1.2.2 a.2 vals) c72 0 (O2 vals [.cell 6 false 1] (UH m a) (.i .i64) .bo (Vo m a)) (Bv 73 2 (.i .i64) .bo m vals (AL.can UB a)))=Xx m a.1.1 a.1.2.1 a.1.2.2 a.2:=by kernel_rfl
abbrev TL:Prop:=XOk Tryz.prog 72 Kj
theorem Tt (h:∀ (m:List (Int×Bool)) (hk:Int) (cs:List (Int×Int×Bool)) (f:Int) (fi:Int),(0<=fi/\fi<cs.length/\cs.length<=1000)->Xx m hk cs f fi):XOk Tryz.prog 72 Kj :=
 O8 J09 mixed M8 rfl (C:=Nc) ⟨.nil,(XsOk.cons (Vc J04 mixed (C:=ZQ) ⟨.nil,XsOk.nil,ItsOk.nil,YlOk.nil,IysOk.nil,XfOk.nil⟩ (λ_=>ZR)) XsOk.nil),ItsOk.nil,YlOk.nil,(IysOk.cons (OQ J03 mixed (C:=ZE) ⟨(.cons WQ .nil),XsOk.nil,ItsOk.nil,YlOk.nil,IysOk.nil,XfOk.nil⟩ ZH) IysOk.nil),XfOk.nil⟩ (L:=λm (a:(Int×(List (Int×Int×Bool))×Int)×Int) vals=>Na m a.1.1 a.1.2.1 a.1.2.2 a.2 vals) (V:=λm (a:(Int×(List (Int×Int×Bool))×Int)×Int)=>Xx m a.1.1 a.1.2.1 a.1.2.2 a.2) Rb λm a hp=>h m a.1.1 a.1.2.1 a.1.2.2 a.2 hp
set_option maxHeartbeats 1000000 in
theorem PT:TL:=Tt λm hk cs f fi h=>by
 obtain⟨h1,h2,h3⟩:=h;unfold Xx;(try delta lI gD sT I64 Q2 pj8 pj4);intro vals;obtain⟨a,rfl⟩:=z8 h1;have ha:a<cs.length:=by omega
 have jv:0<cs.length:=by omega
 have aK:cs≠[]:=zt.1 jv;repeat (first|(refine And.intro (by first|omega|(simp;omega)|rfl|trivial) ?_))
 intro w1;repeat (first|refine⟨trivial,?_⟩|refine⟨rfl,?_⟩)
 intro w2;refine⟨(hk,cs,f,(a:Int),(cs.length:Int),hk,cs,f,(a:Int),m,hk,cs,f,cs,(cs.length:Int),(a:Int),hk,cs,f,(a:Int),w2,vals),(0,0,(List.replicate cs.length 0).set a 1),by and_intros<;>first|rfl|trivial,?_⟩;refine⟨λd=>∃ k:Nat,k<=cs.length/\d=((k:Int),Q09 (nmC cs) (woM m) cs.length a k,HM (nmC cs) (woM m) cs.length a k),λd=>cs.length-d.1.toNat,⟨0,by omega,rfl⟩,?_⟩;rintro _ ⟨k,bn,rfl⟩;dsimp only;refine⟨λc=>?_,λc=>?_⟩
 .have aj:k<cs.length:=by have:=z7 c;omega
  have uW:Int.tmod ((a:Int)+(k:Int)) (cs.length:Int)=((arP cs.length a k:Nat):Int):=by rw[Int.tmod_eq_emod_of_nonneg (by omega)];rfl
  have dK:=SE jv a k;have eR:=(Q34 ha k bn (nm:=nmC cs) (wo:=woM m)).1;rw[uW];refine⟨⟨aK,h3,by omega,by omega,by omega,by omega⟩,?_⟩;repeat (first|refine⟨trivial,?_⟩|refine⟨rfl,?_⟩)
  intro w6;generalize hA:arP cs.length a k=A at *
  refine⟨(Q09 (nmC cs) (woM m) cs.length a k,(A:Int),((HM (nmC cs) (woM m) cs.length a k).length:Int),w2,(k:Int),(k:Int),true,(k:Int),(k:Int),(A:Int),w6),(HM (nmC cs) (woM m) cs.length a k,0),?_,?_⟩
  .and_intros<;>first|rfl|trivial|exact c
  refine⟨λd=>∃ b:Nat,b<=cs.length/\d=(inR (nmC cs) (woM m) A (HM (nmC cs) (woM m) cs.length a k) b,(b:Int)),λd=>cs.length-d.2.toNat,⟨0,by omega,rfl⟩,?_⟩;rintro _ ⟨b,bF,rfl⟩;dsimp only;obtain⟨il,ib⟩:=Z7k (nm:=nmC cs) (wo:=woM m) (m:=b) ha aj bF;rw[hA] at il ib;refine⟨λc2=>?_,λc2=>?_⟩
  .have n9:b<cs.length:=by have:=z7 c2;omega
   have oU:=Q5p (nm:=nmC cs) (wo:=woM m) (at_:=A) (r:=HM (nmC cs) (woM m) cs.length a k) (m:=b);generalize inR (nmC cs) (woM m) A (HM (nmC cs) (woM m) cs.length a k) b=r at *
   have mi:=ib b;simp only[z4];have ah:(((decide (r.getD b 0 > 0)&&!(gq.aget (.i .i64) m (A:Int) false))&&decide ((cs.getD A (0,(0,false))).1 > (cs.getD b (0,(0,false))).1))=true)<->(0<r.getD b 0/\woM m A=false/\nmC cs b<nmC cs A):=by
    simp only[z1,ze,Bool.not_eq_true',gt_iff_lt];unfold woM nmC Ya;constructor
    .rintro⟨⟨p,q⟩,s⟩;exact⟨p,q,s⟩
    .rintro⟨p,q,s⟩;exact⟨⟨p,q⟩,s⟩
   repeat (first|(refine And.intro (by first|omega|rfl|trivial|(intro _;omega)) ?_))
   refine⟨λc3=>?_,λc3=>?_⟩
   .have c4:=ah.1 c3;rw[z2 c4] at oU;repeat (first|(refine And.intro (by first|omega|(rw[Q7];omega)|rfl|trivial) ?_))
    refine⟨(r.set A (LD (r.getD A 0) (r.getD b 0+1)),(b:Int)+1),by and_intros<;>first|rfl|trivial,⟨b+1,n9,by rw[oU];rfl⟩,by dsimp only;omega⟩
   .have c4:¬ (0<r.getD b 0/\woM m A=false/\nmC cs b<nmC cs A):=λc4=>by
     rw[ah.2 c4] at c3;cases c3
    rw[z0 c4] at oU;repeat (first|(refine And.intro (by first|omega|(rw[Q7];omega)|rfl|trivial) ?_))
    refine⟨(r,(b:Int)+1),by and_intros<;>first|rfl|trivial,⟨b+1,n9,by rw[oU];rfl⟩,by dsimp only;omega⟩
  .have bh:b=cs.length:=by have:=z6 c2;omega
   subst bh;have er:inR (nmC cs) (woM m) A (HM (nmC cs) (woM m) cs.length a k) cs.length=HM (nmC cs) (woM m) cs.length a (k+1):=by rw[<-hA];rfl
   have em:Q09 (nmC cs) (woM m) cs.length a (k+1)=LD (Q09 (nmC cs) (woM m) cs.length a k) ((HM (nmC cs) (woM m) cs.length a (k+1)).getD A 0):=by rw[<-hA];rfl
   simp only[z4];rw[er] at il |-;rw[<-em];repeat (first|(refine And.intro (by first|omega|rfl|trivial) ?_))
   refine⟨λc3=>by simp at c3,λ_=>?_⟩;refine⟨by rw[Q7];omega,((k:Int)+1,Q09 (nmC cs) (woM m) cs.length a (k+1),HM (nmC cs) (woM m) cs.length a (k+1)),by and_intros<;>first|rfl|trivial,⟨k+1,aj,rfl⟩,by dsimp only;omega⟩
 .have aC:k=cs.length:=by have:=z6 c;omega
  subst aC;rw[z4];and_intros<;>first|rfl|trivial
def N0:AL (Int×(List (Int×Int×Bool))×Int):=(.one (.agg (.cons (.k (.i .i64)) (.cons (.k (.list (.pair (.i .i64) (.pair (.i .i64) .bo)))) (.one (.k (.i .i64)))))))
def Tl (m:List (Int×Bool)) (a:Int×(List (Int×Int×Bool))×Int):Prop:=a.2.1.length<=1000
def Up (m:List (Int×Bool)) (a:Int×(List (Int×Int×Bool))×Int):SV:=.val (.i .i64) (Y9 (nmC a.2.1) (woM m) a.2.1.length a.2.1.length)
def Vk (m:List (Int×Bool)) (a:Int×(List (Int×Int×Bool))×Int) (m2:List (Int×Bool)):Prop:=m2=m
def Km:XSp:=Q64 Sx 1 (.i .i64) .bo (Z6a N0 Tl Up Vk)
def XA (m:List (Int×Bool)) (hk:Int) (cs:List (Int×Int×Bool)) (f:Int):Prop:=∀ vals:List Value,
 ∃ (e3:Unit) (d30:(List (Int×Bool))×Int×Int),((True/\True/\(0:Int)=d30.2.1/\(lI cs)=(lI cs)/\(0:Int)=d30.2.2/\True)/\((m=d30.1)/\(hk=hk/\cs=cs/\f=f/\(([]:List SV)=[]))/\(vals=vals/\(True/\(([]:List SV)=[])))/\True)) /\
 LoopP (λ(d3:(List (Int×Bool))×Int×Int) (q3:((List (Int×Bool))×Int×Int)->Prop) =>
  ((decide (d3.2.2<(lI cs)))=true ->
   ((!(gq.aget (.i .i64) d3.1 d3.2.2 false))=true ->
    (0<=d3.2.2/\d3.2.2<cs.length/\cs.length<=1000)/\(∀ m4:List (Int×Bool),(m4=d3.1)->(I64 (d3.2.2+(1:Int)))/\(∃ d5:(List (Int×Bool))×Int×Int,((True/\True/\(LD d3.2.1 (Q09 (nmC cs) (woM d3.1) cs.length d3.2.2.toNat cs.length))=d5.2.1/\(lI cs)=(lI cs)/\(d3.2.2+(1:Int))=d5.2.2/\True)/\((m4=d5.1)/\(hk=hk/\cs=cs/\f=f/\(([]:List SV)=[]))/\(vals=vals/\(True/\(([]:List SV)=[])))/\True))/\q3 d5))) /\
   ((!(gq.aget (.i .i64) d3.1 d3.2.2 false))=false ->
    (I64 (d3.2.2+(1:Int)))/\(∃ d6:(List (Int×Bool))×Int×Int,((True/\True/\d3.2.1=d6.2.1/\(lI cs)=(lI cs)/\(d3.2.2+(1:Int))=d6.2.2/\True)/\((d3.1=d6.1)/\(hk=hk/\cs=cs/\f=f/\(([]:List SV)=[]))/\(vals=vals/\(True/\(([]:List SV)=[])))/\True))/\q3 d6))) /\
  ((decide (d3.2.2<(lI cs)))=false ->
   (vals=vals/\(True/\(([]:List SV)=[]))/\d3.2.1=(Y9 (nmC cs) (woM m) cs.length cs.length)/\(d3.1=m)))) d30
def Nt:Cx:=⟨[],[],25,[],0,[(72,Kj)],[],[],[],false,[],[],[],[]⟩
def Nv (m:List (Int×Bool)) (hk:Int) (cs:List (Int×Int×Bool)) (f:Int) (vals:List Value):List (Nat×LoopAnn):=[(0,⟨Unit,(List (Int×Bool))×Int×Int,[1,2,4,9,10],λe x=>[.map 0,.box 2 0,.val (.i .i64) x.2.1,.val (.i .i64) (((List.length cs):Nat):Int),.val (.i .i64) x.2.2],λe x=>[(0,.slot 1,.map (.i .i64) .bo x.1),(2,.slot 2,.cells [.val (.i .i64) hk,.val (.list (.pair (.i .i64) (.pair (.i .i64) .bo))) cs,.val (.i .i64) f] (some 77)),(4000000,.key 4000000,.stk [.map 0] vals)]⟩)]
theorem Rr (m:List (Int×Bool)) (a:Int×(List (Int×Int×Bool))×Int):(∀ vals,gwp Nt (Nv m a.1 a.2.1 a.2.2 vals) c51 0 (O2 vals [.tmp 4] (Up m a) (.i .i64) .bo (Vk m a)) (Bv 25 1 (.i .i64) .bo m vals (AL.can N0 a)))=XA m a.1 a.2.1 a.2.2:=by kernel_rfl
abbrev RB:Prop:=XOk Tryz.prog 51 Km
theorem R6 (h:∀ (m:List (Int×Bool)) (hk:Int) (cs:List (Int×Int×Bool)) (f:Int),(cs.length<=1000)->XA m hk cs f):XOk Tryz.prog 51 Km :=
 O8 Z8n mixed M8 rfl (C:=Nt) ⟨.nil,(XsOk.cons PT XsOk.nil),ItsOk.nil,YlOk.nil,IysOk.nil,XfOk.nil⟩ (L:=λm (a:Int×(List (Int×Int×Bool))×Int) vals=>Nv m a.1 a.2.1 a.2.2 vals) (V:=λm (a:Int×(List (Int×Int×Bool))×Int)=>XA m a.1 a.2.1 a.2.2) Rr λm a hp=>h m a.1 a.2.1 a.2.2 hp
theorem T5:RB:=R6 λm hk cs f h=>by
 unfold XA;(try delta lI gD sT I64 Q2 pj8 pj4);intro vals;refine⟨(),(m,0,0),by and_intros<;>first|rfl|trivial,?_⟩;refine⟨λd=>∃ k:Nat,k<=cs.length/\d=(m,Y9 (nmC cs) (woM m) cs.length k,(k:Int)),λd=>cs.length-d.2.2.toNat,⟨0,by omega,rfl⟩,?_⟩;rintro _ ⟨k,bn,rfl⟩;dsimp only;refine⟨λc=>?_,λc=>?_⟩
 .have aj:k<cs.length:=by have:=z7 c;omega
  refine⟨λc2=>?_,λc2=>?_⟩
  .have hw:woM m k=false:=by
    show gq.aget (.i .i64) m (k:Int) false=false;simpa using c2
   refine⟨⟨by omega,by omega,h⟩,λm4 hm=>?_⟩;subst hm;have e:Y9 (nmC cs) (woM m4) cs.length (k+1)=LD (Y9 (nmC cs) (woM m4) cs.length k) (Q09 (nmC cs) (woM m4) cs.length k cs.length):=by show (if woM m4 k=true then _ else _)=_;rw[hw,z0 (by decide)]
   refine⟨by rw[Q7];omega,(m4,Y9 (nmC cs) (woM m4) cs.length (k+1),(k:Int)+1),?_,⟨k+1,aj,rfl⟩,by dsimp only;omega⟩;rw[z4,e];and_intros<;>first|rfl|trivial
  .have hw:woM m k=true:=by
    show gq.aget (.i .i64) m (k:Int) false=true;simpa using c2
   have e:Y9 (nmC cs) (woM m) cs.length (k+1)=Y9 (nmC cs) (woM m) cs.length k:=by show (if woM m k=true then _ else _)=_;rw[z2 hw]
   refine⟨by rw[Q7];omega,(m,Y9 (nmC cs) (woM m) cs.length (k+1),(k:Int)+1),?_,⟨k+1,aj,rfl⟩,by dsimp only;omega⟩;rw[e];and_intros<;>first|rfl|trivial
 .have aC:k=cs.length:=by have:=z6 c;omega
  subst aC;and_intros<;>first|rfl|trivial
def PC:AL (Int×List (Int×Int×Bool)):=(.one (.agg (.cons (.k (.i .i64)) (.one (.k (.list (.pair (.i .i64) (.pair (.i .i64) .bo))))))))
def CK (d:Int×List (Int×Int×Bool)):Prop:=d.2.length<=1000
def BV (d:Int×List (Int×Int×Bool)):SV:=.tup [.lst 0,.val (.i .i64) (QQ d.1 d.2)]
def B9 (d:Int×List (Int×Int×Bool)):List OB:=[.lst 3 (.i .i64) (Q2o d.1 d.2) ((Q2o d.1 d.2).isEmpty)]
def GB:CSp:=XD PC CK BV B9
abbrev YK (cs:List (Int×Int×Bool)):=(Y9 (nmC cs) (woM ([]:List (Int×Bool))) cs.length cs.length)
abbrev HI (hk:Int) (cs:List (Int×Int×Bool)):=(((Q2o hk cs)=[]/\(Q2o hk cs).isEmpty=true)/\True)
def Kv (hk:Int) (cs:List (Int×Int×Bool)):Prop :=
 ∀ w1:List Value,∀ w2:List Value,(True)/\((!(inI hk 1 24))=true ->
  w2=w2/\w1=w1/\((True/\(3:Int)=(QQ hk cs)/\(([]:List SV)=[]))/\(HI hk cs))) /\
 ((!(inI hk 1 24))=false ->
  (((decide ((lI cs) > (60:Int)))=true ->
   w2=w2/\w1=w1/\((True/\(5:Int)=(QQ hk cs)/\(([]:List SV)=[]))/\(HI hk cs))) /\
  ((decide ((lI cs) > (60:Int)))=false ->
   (1<=hk/\hk<=24/\cs.length<=1000000)/\((!(!cs.isEmpty&&!(cs.any λc=>!Zt hk c)))=true ->
    w2=w2/\w1=w1/\((True/\(2:Int)=(QQ hk cs)/\(([]:List SV)=[]))/\(HI hk cs))) /\
   ((!(!cs.isEmpty&&!(cs.any λc=>!Zt hk c)))=false ->
    w2=w2/\∃ (e5:Int×(List (Int×Int×Bool))×Int×Int×Int×(List (Int×Int×Bool))×Int×(List (Int×Int×Bool))×Int×Int×(List (Int×Int×Bool))×Int×(List (Int×Int×Bool))×Int×Int×(List (Int×Int×Bool))×(List Value)) (d50:(List (Int×Bool))×Int),((True/\True/\True/\True/\cs=(pj4 e5).2.2.2.1/\(lI cs)=(pj8 e5).1/\(0:Int)=d50.2/\True)/\((hk=e5.1/\cs=e5.2.1/\(([]:List SV)=[]))/\((0:Int)=e5.2.2.1/\True/\(0:Int)=e5.2.2.2.1/\(([]:List SV)=[]))/\(hk=(pj4 e5).1/\cs=(pj4 e5).2.1/\hk=(pj4 e5).2.2.1/\(([]:List SV)=[]))/\(([]:List (Int×Bool))=d50.1)/\((Q2 e5)=w1/\((hk=(pj8 e5).2.1/\cs=(pj8 e5).2.2.1/\(([]:List SV)=[]))/\True/\True/\(0:Int)=(pj4 (pj8 e5)).2.1/\True/\True/\True/\True/\True/\(hk=(pj4 (pj8 e5)).2.2.1/\cs=(pj4 (pj8 e5)).2.2.2.1/\(([]:List SV)=[]))/\True/\True/\True/\True/\True/\True/\True/\True/\True/\True/\True/\True/\True/\True/\True/\True/\True/\True/\True/\True/\True/\True/\True/\True/\True/\True/\True/\True/\True/\True/\True/\True/\True/\True/\True/\True/\True/\True/\True/\(([]:List SV)=[])))/\(hk=(pj8 e5).2.2.2.1/\cs=(pj4 (pj8 e5)).1/\(([]:List SV)=[]))/\True)) /\
    LoopP (λ(d5:(List (Int×Bool))×Int) (q5:((List (Int×Bool))×Int)->Prop) =>
     ((decide (d5.2<(pj8 e5).1))=true ->
      (0<=d5.2)/\(d5.2<(List.length (pj4 e5).2.2.2.1))/\(I64 (d5.2+(1:Int)))/\(∃ d6:(List (Int×Bool))×Int,((True/\True/\True/\True/\(pj4 e5).2.2.2.1=(pj4 e5).2.2.2.1/\(pj8 e5).1=(pj8 e5).1/\(d5.2+(1:Int))=d6.2/\True)/\((e5.1=e5.1/\e5.2.1=e5.2.1/\(([]:List SV)=[]))/\(e5.2.2.1=e5.2.2.1/\True/\e5.2.2.2.1=e5.2.2.2.1/\(([]:List SV)=[]))/\((pj4 e5).1=(pj4 e5).1/\(pj4 e5).2.1=(pj4 e5).2.1/\(pj4 e5).2.2.1=(pj4 e5).2.2.1/\(([]:List SV)=[]))/\((Dk (.i .i64) d5.1 (gD (pj4 e5).2.2.2.1 d5.2 (0,(0,false))).1 true)=d6.1)/\((Q2 e5)=(Q2 e5)/\(((pj8 e5).2.1=(pj8 e5).2.1/\(pj8 e5).2.2.1=(pj8 e5).2.2.1/\(([]:List SV)=[]))/\True/\True/\(pj4 (pj8 e5)).2.1=(pj4 (pj8 e5)).2.1/\True/\True/\True/\True/\True/\((pj4 (pj8 e5)).2.2.1=(pj4 (pj8 e5)).2.2.1/\(pj4 (pj8 e5)).2.2.2.1=(pj4 (pj8 e5)).2.2.2.1/\(([]:List SV)=[]))/\True/\True/\True/\True/\True/\True/\True/\True/\True/\True/\True/\True/\True/\True/\True/\True/\True/\True/\True/\True/\True/\True/\True/\True/\True/\True/\True/\True/\True/\True/\True/\True/\True/\True/\True/\True/\True/\True/\True/\(([]:List SV)=[])))/\((pj8 e5).2.2.2.1=(pj8 e5).2.2.2.1/\(pj4 (pj8 e5)).1=(pj4 (pj8 e5)).1/\(([]:List SV)=[]))/\True))/\q5 d6)) /\
     ((decide (d5.2<(pj8 e5).1))=false ->
      ((gq.aget (.i .i64) d5.1 (-1:Int) false)=true ->
       (Q2 e5)=w1/\((True/\(9:Int)=(QQ hk cs)/\(([]:List SV)=[]))/\(HI hk cs))) /\
      ((gq.aget (.i .i64) d5.1 (-1:Int) false)=false ->
       ((decide ((lI d5.1)<(lI e5.2.1)))=true ->
        (Q2 e5)=w1/\((True/\(6:Int)=(QQ hk cs)/\(([]:List SV)=[]))/\(HI hk cs))) /\
       ((decide ((lI d5.1)<(lI e5.2.1)))=false ->
        (Q2 e5)=w1/\((pj4 e5).2.1.length<=1000)/\(∀ m7:List (Int×Bool),(m7=([]:List (Int×Bool)))->∃ (sv:Unit) (d110:(List Int)×(List (Int×Bool))×Int),((True/\True/\True/\True/\(Y9 (nmC (pj4 e5).2.1) (woM ([]:List (Int×Bool))) (pj4 e5).2.1.length (pj4 e5).2.1.length)=(YK cs)/\(lI (pj4 (pj8 e5)).1)=(lI cs)/\(0:Int)=d110.2.2/\True)/\(((pj8 e5).2.2.2.1=hk/\(pj4 (pj8 e5)).1=cs/\(([]:List SV)=[]))/\(d110.1=[]/\(List.isEmpty d110.1)=true)/\((pj4 e5).1=hk/\(pj4 e5).2.1=cs/\(pj4 e5).2.2.1=hk/\(([]:List SV)=[]))/\(m7=d110.2.1)/\True)) /\
        LoopP (λ(d11:(List Int)×(List (Int×Bool))×Int) (sx:((List Int)×(List (Int×Bool))×Int)->Prop) =>
         ((decide (d11.2.2<(lI cs)))=true ->
          (cs.length<=1000)/\(∀ lB:List (Int×Bool),(lB=(Dk (.i .i64) d11.2.1 d11.2.2 true))->((decide ((Y9 (nmC cs) (woM (Dk (.i .i64) d11.2.1 d11.2.2 true)) cs.length cs.length)<(YK cs)))=true ->
           (I64 (d11.2.2+(1:Int)))/\(∃ d13:(List Int)×(List (Int×Bool))×Int,((True/\True/\True/\True/\(YK cs)=(YK cs)/\(lI cs)=(lI cs)/\(d11.2.2+(1:Int))=d13.2.2/\True)/\((hk=hk/\cs=cs/\(([]:List SV)=[]))/\(d11.1=d13.1/\(List.isEmpty d11.1)=(List.isEmpty d13.1))/\(hk=hk/\cs=cs/\hk=hk/\(([]:List SV)=[]))/\((Z3a (.i .i64) lB d11.2.2)=d13.2.1)/\True))/\sx d13)) /\
          ((decide ((Y9 (nmC cs) (woM (Dk (.i .i64) d11.2.1 d11.2.2 true)) cs.length cs.length)<(YK cs)))=false ->
           (((List.length d11.1)+(List.length [d11.2.2]))*8<=70368744177664)/\(I64 ((lI (d11.1++[d11.2.2]))+(YK cs)))/\((((lI (d11.1++[d11.2.2]))+(YK cs))==(lI cs))=true ->
            ((True/\(0:Int)=(QQ hk cs)/\(([]:List SV)=[]))/\(((d11.1++[d11.2.2])=(Q2o hk cs)/\false=(Q2o hk cs).isEmpty)/\True))) /\
           ((((lI (d11.1++[d11.2.2]))+(YK cs))==(lI cs))=false ->
            (I64 (d11.2.2+(1:Int)))/\(∃ d14:(List Int)×(List (Int×Bool))×Int,((True/\True/\True/\True/\(YK cs)=(YK cs)/\(lI cs)=(lI cs)/\(d11.2.2+(1:Int))=d14.2.2/\True)/\((hk=hk/\cs=cs/\(([]:List SV)=[]))/\((d11.1++[d11.2.2])=d14.1/\false=(List.isEmpty d14.1))/\(hk=hk/\cs=cs/\hk=hk/\(([]:List SV)=[]))/\(lB=d14.2.1)/\True))/\sx d14))))) /\
         ((decide (d11.2.2<(lI cs)))=false ->
          ((True/\(0:Int)=(QQ hk cs)/\(([]:List SV)=[]))/\((d11.1=(Q2o hk cs)/\(List.isEmpty d11.1)=(Q2o hk cs).isEmpty)/\True)))) d110))))) d50))))
def Xg:Cx:=⟨[(1000018,(.pair (.i .i64) .bo))],[(26,QD),(57,QL)],43,[3000015],0,[(33,KX)],[],[],[],false,[],[],[15],[]⟩
def Xe:List (Nat×LoopAnn):=[(0,⟨Int×(List (Int×Int×Bool))×Int×Int×Int×(List (Int×Int×Bool))×Int×(List (Int×Int×Bool))×Int×Int×(List (Int×Int×Bool))×Int×(List (Int×Int×Bool))×Int×Int×(List (Int×Int×Bool))×(List Value),(List (Int×Bool))×Int,[1,2,4,6,20,21,22],λe x=>[.box 1100001 0,.box 1100002 0,.box 1100004 0,.map 1100018,.val (.list (.pair (.i .i64) (.pair (.i .i64) .bo))) e.2.2.2.2.2.2.2.1,.val (.i .i64) e.2.2.2.2.2.2.2.2.1,.val (.i .i64) x.2],λe x=>[(1100001,.slot 1,.cells [.val (.i .i64) e.1,.val (.list (.pair (.i .i64) (.pair (.i .i64) .bo))) e.2.1] (some 36)),(1100002,.slot 2,.cells [.val (.i .i64) e.2.2.1,.nilS,.val (.i .i64) e.2.2.2.1] (some 77)),(1100004,.slot 4,.cells [.val (.i .i64) e.2.2.2.2.1,.val (.list (.pair (.i .i64) (.pair (.i .i64) .bo))) e.2.2.2.2.2.1,.val (.i .i64) e.2.2.2.2.2.2.1] (some 77)),(1100018,.slot 6,.map (.i .i64) .bo x.1),(1099999,.key 1099999,.stk [.agg [.val (.i .i64) e.2.2.2.2.2.2.2.2.2.1,.val (.list (.pair (.i .i64) (.pair (.i .i64) .bo))) e.2.2.2.2.2.2.2.2.2.2.1],.box 1 0,.nilS,.val (.i .i64) e.2.2.2.2.2.2.2.2.2.2.2.2.2.1,.any,.any,.any,.any,.any,.agg [.val (.i .i64) e.2.2.2.2.2.2.2.2.2.2.2.2.2.2.1,.val (.list (.pair (.i .i64) (.pair (.i .i64) .bo))) e.2.2.2.2.2.2.2.2.2.2.2.2.2.2.2.1],.any,.any,.any,.any,.any,.any,.any,.any,.any,.any,.any,.any,.any,.any,.any,.any,.any,.any,.any,.any,.any,.any,.any,.any,.any,.any,.any,.any,.any,.any,.any,.any,.any,.any,.any,.any,.any,.any,.any] e.2.2.2.2.2.2.2.2.2.2.2.2.2.2.2.2),(1,.key 1,.cells [.val (.i .i64) e.2.2.2.2.2.2.2.2.2.2.2.1,.val (.list (.pair (.i .i64) (.pair (.i .i64) .bo))) e.2.2.2.2.2.2.2.2.2.2.2.2.1] (some 36))]⟩)]
def Pw:Cx:=⟨[(3,(.i .i64)),(1000016,(.pair (.i .i64) .bo))],[],49,[3000014],0,[(28,Q5s Xg (λ_=>Xe) c28 [.cell 2 true 3,.tmp 3] 43),(51,Km)],[],[],[],false,[],[],[14],[]⟩
def Fk (hk:Int) (cs:List (Int×Int×Bool)):List (Nat×LoopAnn):=[(0,⟨Unit,(List Int)×(List (Int×Bool))×Int,[1,2,4,5,6,22,23],λe x=>[.box 1 0,.lst 38,.box 4 0,.map 16,.val (.i .i64) (Y9 (nmC cs) (woM ([]:List (Int×Bool))) cs.length cs.length),.val (.i .i64) (((List.length cs):Nat):Int),.val (.i .i64) x.2.2],λe x=>[(1,.slot 1,.cells [.val (.i .i64) hk,.val (.list (.pair (.i .i64) (.pair (.i .i64) .bo))) cs] (some 36)),(38,.slot 2,.lst 3 (.i .i64) x.1 (List.isEmpty x.1)),(4,.slot 4,.cells [.val (.i .i64) hk,.val (.list (.pair (.i .i64) (.pair (.i .i64) .bo))) cs,.val (.i .i64) hk] (some 77)),(16,.slot 5,.map (.i .i64) .bo x.2.1)]⟩)]
theorem EX (d:Int×List (Int×Int×Bool)):gwp (Pw) (Fk d.1 d.2) c24 0 (Wj [.tmp 2,.tmp 3] (BV d) (B9 d)) (Qp 49 (AL.can PC d))=Kv d.1 d.2:=by kernel_rfl
abbrev Ey:Prop:=OkC Tryz.prog 24 GB
theorem FY (h:∀ (hk:Int) (cs:List (Int×Int×Bool)),(cs.length<=1000)->Kv hk cs):OkC Tryz.prog 24 GB :=
 Qs Z9j mixed (C:=Pw) (V:=λ(d:Int×List (Int×Int×Bool))=>Kv d.1 d.2) ⟨.nil,(XsOk.cons (Vc Z7j mixed (C:=Xg) ⟨(.cons Z0 (.cons Zl .nil)),(XsOk.cons KH XsOk.nil),ItsOk.nil,YlOk.nil,IysOk.nil,XfOk.nil⟩ (λ_=>Xe)) (XsOk.cons T5 XsOk.nil)),ItsOk.nil,YlOk.nil,IysOk.nil,XfOk.nil⟩ (EX) λd hp=>h d.1 d.2 hp
set_option maxHeartbeats 1000000 in
theorem Fp:Ey:=FY λhk cs h=>by
 have cY:∀ e:Int,QQ hk cs=e->e≠0->(e=QQ hk cs)/\Q2o hk cs=[]/\(Q2o hk cs).isEmpty=true:=λe h1 h2=>by
  have:Q2o hk cs=[]:=by unfold Q2o;rw[z0 (by omega)]
  exact⟨h1.symm,this,by rw[this];rfl⟩
 have bh:∀ e:Int,QG hk cs=e->e≠0->QQ hk cs=e:=λe h1 h2=>by unfold QQ;rw[z2 (by omega)];exact h1
 unfold Kv;(try delta YK HI);(try delta lI gD sT I64 Q2 pj8 pj4);intro w1 w2;repeat (first|refine⟨trivial,?_⟩|refine⟨rfl,?_⟩)
 refine⟨λc1=>?_,λc1=>?_⟩
 .repeat (first|refine⟨trivial,?_⟩|refine⟨rfl,?_⟩)
  have e:QG hk cs=3:=by unfold QG;rw[z2 c1]
  obtain⟨u,v,w⟩:=cY 3 (bh 3 e (by decide)) (by decide);and_intros<;>first|rfl|trivial|assumption
 repeat (first|refine⟨trivial,?_⟩|refine⟨rfl,?_⟩)
 refine⟨λc2=>?_,λc2=>?_⟩
 .have c2:60<cs.length:=by have:=z7 c2;omega
  have e:QG hk cs=5:=by unfold QG;rw[z0 (by rw[c1];decide),z2 c2]
  obtain⟨u,v,w⟩:=cY 5 (bh 5 e (by decide)) (by decide);and_intros<;>first|rfl|trivial|assumption
 have c2:cs.length<=60:=by have:=z6 c2;omega
 obtain⟨i1,i2⟩:=SN c1;repeat (first|refine⟨trivial,?_⟩|refine⟨rfl,?_⟩)
 refine⟨⟨i1,i2,by omega⟩,λc3=>?_,λc3=>?_⟩
 .obtain⟨u,v,w⟩:=cY 2 (bh 2 (O4 c1 c2 c3) (by decide)) (by decide);and_intros<;>first|rfl|trivial|assumption
 obtain⟨be,aK,av⟩:=Cq c1 c2 c3;repeat (first|refine⟨trivial,?_⟩|refine⟨rfl,?_⟩)
 refine⟨(hk,cs,0,0,hk,cs,hk,cs,(cs.length:Int),hk,cs,hk,cs,0,hk,cs,w1),([],0),by and_intros<;>first|rfl|trivial,?_⟩;refine⟨λd=>∃ k:Nat,k<=cs.length/\d.2=(k:Int)/\SeenI (cs.map (·.1)) d.1 k,λd=>cs.length-d.2.toNat,⟨0,by omega,rfl,SeenI.nil _⟩,?_⟩;rintro⟨mm,_⟩ ⟨k,bn,rfl,hS⟩;dsimp only at hS |-;refine⟨λc=>?_,λc=>?_⟩
 .have aj:k<cs.length:=by have:=z7 c;omega
  have hp:=hS.put (by simpa using aj);have eg:(cs.map (·.1)).getD k 0=(cs.getD k (0,(0,false))).1:=by
   rw[Qg (by simpa using aj),Qg aj,xq]
  rw[eg] at hp;simp only[z4];exact⟨by omega,by omega,by rw[Q7];omega,(Dk (.i .i64) mm (cs.getD k (0,(0,false))).1 true,(k:Int)+1),by and_intros<;>first|rfl|trivial,⟨k+1,aj,rfl,hp⟩,by dsimp only;omega⟩
 .have aC:k=cs.length:=by have:=z6 c;omega
  subst aC;have hl:(cs.map (·.1)).length=cs.length:=xR ..;rw[<-hl] at hS;obtain⟨f1,f2⟩:=hS.full;rw[hl] at f2;refine⟨λc4=>?_,λc4=>?_⟩
  .rw[f1] at c4;have e:QQ hk cs=9:=by unfold QQ;rw[z0 (by omega),z2 (z7 c4)]
   obtain⟨u,v,w⟩:=cY 9 e (by decide);and_intros<;>first|rfl|trivial|assumption
  rw[f1] at c4;have c4:=z6 c4;refine⟨λc5=>?_,λc5=>?_⟩
  .rw[f2] at c5;have e:QQ hk cs=6:=by unfold QQ;rw[z0 (by omega),z0 c4,z0 (z7 c5)]
   obtain⟨u,v,w⟩:=cY 6 e (by decide);and_intros<;>first|rfl|trivial|assumption
  rw[f2] at c5;have gv:(cs.map (·.1)).Nodup:=Decidable.not_not.1 (z6 c5);have en:QQ hk cs=0:=by unfold QQ;rw[z0 (by omega),z0 c4,z2 gv]
  have em:Q2o hk cs=mvK (nmC cs) cs.length cs.length:=by unfold Q2o;rw[z2 en]
  rw[en,em];have jY:Y9 (nmC cs) (woM ([]:List (Int×Bool))) cs.length cs.length=T6 (nmC cs) cs.length:=rfl;rw[jY];obtain⟨b1,b2,_⟩:=Z0c (nmC cs) (λ_=>false) cs.length;have b1:0<=T6 (nmC cs) cs.length:=b1;have b2:T6 (nmC cs) cs.length<=cs.length:=b2;clear jY hS f1 f2;repeat (first|refine⟨trivial,?_⟩|refine⟨rfl,?_⟩)
  refine⟨h,λm7 uX=>?_⟩;subst uX;refine⟨(),([],[],0),by and_intros<;>first|rfl|trivial,?_⟩;refine⟨λd=>∃ k:Nat,k<=cs.length/\d=(mvK (nmC cs) cs.length k,(mvK (nmC cs) cs.length k).map (λx=>(x,true)),(k:Int))/\(((mvK (nmC cs) cs.length k).length:Int)+T6 (nmC cs) cs.length≠cs.length\/T6 (nmC cs) cs.length=cs.length),λd=>cs.length-d.2.2.toNat,⟨0,by omega,rfl,?_⟩,?_⟩
  .by_cases q:T6 (nmC cs) cs.length=cs.length
   .exact .inr q
   .left;show ((([]:List Int).length:Nat):Int)+_≠_;simpa using q
  rintro _ ⟨k,bn,rfl,hq⟩;dsimp only;have jA:(k:Int)∉mvK (nmC cs) cs.length k:=λhm=>by have:=Q4r _ _ _ _ hm;omega
  have du:=Q7t jA;have hlen:=Z0e (nmC cs) cs.length k;have jZ:mvK (nmC cs) cs.length (k+1)=if ((mvK (nmC cs) cs.length k).length:Int)+T6 (nmC cs) cs.length=cs.length then mvK (nmC cs) cs.length k else if Y9 (nmC cs) (woL (mvK (nmC cs) cs.length k++[(k:Int)])) cs.length cs.length<T6 (nmC cs) cs.length then mvK (nmC cs) cs.length k else mvK (nmC cs) cs.length k++[(k:Int)]:=rfl
  refine⟨λc=>?_,λc=>?_⟩
  .have aj:k<cs.length:=by have:=z7 c;omega
   have uY:woL (mvK (nmC cs) cs.length k++[(k:Int)]) k=true:=zL (xW _ (zO.2 rfl));obtain⟨_,_,b3⟩:=Z0c (nmC cs) (woL (mvK (nmC cs) cs.length k++[(k:Int)])) cs.length;have b3:=b3 k aj uY;refine⟨h,λlB n_=>?_⟩;rw[du] at n_;subst n_;rw[du,Z4s,Z0i jA];refine⟨λc6=>?_,λc6=>?_⟩
   .have c6:=z7 c6;have es:mvK (nmC cs) cs.length (k+1)=mvK (nmC cs) cs.length k:=by
     rw[jZ,z2 c6,ite_self]
    refine⟨by rw[Q7];omega,(mvK (nmC cs) cs.length (k+1),(mvK (nmC cs) cs.length (k+1)).map (λx=>(x,true)),(k:Int)+1),?_,⟨k+1,aj,rfl,by rw[es];exact hq⟩,by dsimp only;omega⟩;rw[es];and_intros<;>first|rfl|trivial
   .have c6:=z6 c6;have si:((mvK (nmC cs) cs.length k).length:Int)+T6 (nmC cs) cs.length≠cs.length:=by
     rcases hq with hq|hq
     .exact hq
     .omega
    have es:mvK (nmC cs) cs.length (k+1)=mvK (nmC cs) cs.length k++[(k:Int)]:=by rw[jZ,z0 si,z0 c6]
    have dy:(mvK (nmC cs) cs.length k++[(k:Int)]).length=(mvK (nmC cs) cs.length k).length+1:=by simp
    have jz:(mvK (nmC cs) cs.length k++[(k:Int)]).isEmpty=false:=by simp
    rw[<-es] at dy jz |-;refine⟨by simp;omega,by rw[Q7];omega,λc7=>?_,λc7=>?_⟩
    .have c7:((mvK (nmC cs) cs.length (k+1)).length:Int)+T6 (nmC cs) cs.length=cs.length:=by simpa using c7
     have aY:=Q4x c7 (cs.length-(k+1));rw[show k+1+(cs.length-(k+1))=cs.length by omega] at aY;rw[aY];and_intros<;>first|rfl|trivial|exact jz.symm
    .have c7:((mvK (nmC cs) cs.length (k+1)).length:Int)+T6 (nmC cs) cs.length≠cs.length:=by simpa using c7
     refine⟨by rw[Q7];omega,(mvK (nmC cs) cs.length (k+1),(mvK (nmC cs) cs.length (k+1)).map (λx=>(x,true)),(k:Int)+1),?_,⟨k+1,aj,rfl,.inl c7⟩,by dsimp only;omega⟩;and_intros<;>first|rfl|trivial|exact jz.symm
  .have aC:k=cs.length:=by have:=z6 c;omega
   subst aC;and_intros<;>first|rfl|trivial
def Xc (n mo:Nat):List (Int×Int):=(List.range n).flatMap λ(a:Nat)=>(List.range (mo+1)).map λ(f:Nat)=>((a:Int),(f:Int))
def PZ (n:Int) (p:Int×Int) (s:Int):Int×Int:=(Int.tmod (p.1+s) n,p.2+if s=1 then 0 else 1)
def SA (n mo:Int) (p:Int×Int) (w:Int) (q:Int×Int) (s:Int):Int:=if PZ n p s=q/\q.2<=mo then w else 0
def Q14 (n mo:Int) (wv:Int->Bool) (p:Int×Int) (w:Int) (q:Int×Int):Int:=if wv p.1=true then SA n mo p w q 0+SA n mo p w q 1+SA n mo p w q 2 else 0
def wyK (n mo:Nat) (wv:Nat->Int->Bool):Nat->Int×Int->Int
 |0,q=>if 0<=q.1/\q.1<(n:Int)/\q.2=0 then 1 else 0
 |k+1,q=>((Xc n mo).map λp=>Q14 n mo (wv k) p (wyK n mo wv k p) q).sum
def MapW (n mo:Nat) (m:List ((Int×Int)×Int)) (W:Int×Int->Int):Prop:=(m.map (·.1)).Nodup/\(∀ e∈m,e.2=W e.1/\0<e.2/\e.1∈Xc n mo)/\∀ q,W q≠0->∃ e∈m,e.1=q
theorem Kw {n mo:Nat}{q:Int×Int}:q∈Xc n mo<->(0<=q.1/\q.1<n)/\0<=q.2/\q.2<=mo:=by
 unfold Xc;simp only[List.mem_flatMap,zS,zC];constructor
 .rintro⟨a,ha,f,hf,rfl⟩;dsimp only;omega
 .intro h;exact⟨q.1.toNat,by omega,q.2.toNat,by omega,by ext<;>dsimp only<;>omega⟩
theorem HC (n mo:Nat):(Xc n mo).Nodup:=by unfold Xc;refine List.pairwise_flatMap.2 ⟨λa _=>x_.2 ((List.nodup_range (n:=mo+1)).imp λh e=>h (by have:=(Prod.ext_iff.1 e).2;dsimp only at this;omega)),(List.nodup_range (n:=n)).imp λ{a b} h x hx y hy e=>?_⟩;obtain⟨f,_,rfl⟩:=zC.1 hx;obtain⟨g,_,rfl⟩:=zC.1 hy;have:=(Prod.ext_iff.1 e).1;dsimp only at this;omega
theorem Q5h {l l':List Int}(h:l.Perm l'):l.sum=l'.sum:=by
 induction h with
 |nil=>rfl
 |cons x _ ih=>simp only[xB];omega
 |swap x y l=>simp only[xB];omega
 |trans _ _ h1 h2=>exact h1.trans h2
theorem LV {α:Type}{f:α->Int}:∀ {l:List α},(∀ x∈l,f x=0)->(l.map f).sum=0
 |[],_=>rfl
 |x::l,h=>by rw[zx,xB,h x (zz ..),LV λy hy=>h y (zr _ hy)];rfl
theorem Mq {α:Type}{f:α->Int}:∀ {l:List α},(∀ x∈l,0<=f x)->0<=(l.map f).sum
 |[],_=>Int.le_refl _
 |x::l,h=>by have h1:=h x (zz ..);have h2:=Mq (l:=l) λy hy=>h y (zr _ hy);rw[zx,xB];omega
theorem Ow {α:Type}(f:α->Int) (a b:List α):((a++b).map f).sum=(a.map f).sum+(b.map f).sum:=by rw[xw,List.sum_append_int]
theorem Eg {n mo:Nat}{m:List ((Int×Int)×Int)}{W:Int×Int->Int}(h:MapW n mo m W) (G:Int×Int->Int->Int) (h0:∀ p,G p 0=0):(m.map λe=>G e.1 e.2).sum=((Xc n mo).map λp=>G p (W p)).sum:=by
 obtain⟨h1,h2,h3⟩:=h;have e1:(m.map λe=>G e.1 e.2)=(m.map (·.1)).map λp=>G p (W p):=by
  rw[wF];exact xd λe he=>by show G e.1 e.2=G e.1 (W e.1);rw[(h2 e he).1]
 have hp:((m.map (·.1))++(Xc n mo).filter λp=>!(m.map (·.1)).contains p).Perm (Xc n mo):=by
  refine (xS (List.nodup_append.2 ⟨h1,(HC n mo).filter _,λa ha b hb e=>?_⟩) (HC n mo)).2 λa=>?_
  .subst e;have:=(zU.1 hb).2;simp at this;obtain⟨x,hx⟩:=zC.1 ha;exact this x.2 (by rw[<-hx.2];exact hx.1)
  .rw[xk,zU];constructor
   .rintro (h|h)
    .obtain⟨e,he,rfl⟩:=zC.1 h;exact(h2 e he).2.2
    .exact h.1
   .intro h;by_cases hc:a∈m.map (·.1)
    .exact .inl hc
    .exact .inr ⟨h,by simpa using hc⟩
 rw[e1,<-Q5h (hp.map λp=>G p (W p)),Ow];have:(((Xc n mo).filter λp=>!(m.map (·.1)).contains p).map λp=>G p (W p)).sum=0:=LV λp hp=>by
  have hc:=(zU.1 hp).2;have:W p=0:=by
   by_cases e:W p=0
   .exact e
   .obtain⟨x,hx,rfl⟩:=h3 p e;have:x.1∈m.map (·.1):=zC.2 ⟨x,hx,rfl⟩;simp[this] at hc
  rw[this,h0]
 rw[this];omega
def WN (m:List ((Int×Int)×Int)) (k:Int×Int):Int:=gq.aget (.pair (.i .i64) (.i .i64)) m k 0
def B7 (m:List ((Int×Int)×Int)) (k:Int×Int) (v:Int):List ((Int×Int)×Int):=Dk (.pair (.i .i64) (.i .i64)) m k v
theorem Z7s {a b:Int×Int}:gq.keq (.pair (.i .i64) (.i .i64)) a b=true<->a=b:=by show ((a.1==b.1)&&(a.2==b.2))=true<->_;simp only[z1,zD,Prod.ext_iff]
theorem Uo (a:Int×Int) (b:Int) (m:List ((Int×Int)×Int)) (k:Int×Int):WN ((a,b)::m) k=if k=a then b else WN m k:=by
 show (if gq.keq (.pair (.i .i64) (.i .i64)) k a=true then b else gq.aget (.pair (.i .i64) (.i .i64)) m k 0)=_;by_cases h:k=a
 .rw[z2 (Z7s.2 h),z2 h]
 .rw[z0 (λe=>h (Z7s.1 e)),z0 h];rfl
theorem UT (a:Int×Int) (b:Int) (m:List ((Int×Int)×Int)) (k:Int×Int) (v:Int):B7 ((a,b)::m) k v=if k=a then (k,v)::m else (a,b)::B7 m k v:=by
 show (if gq.keq (.pair (.i .i64) (.i .i64)) k a=true then (k,v)::m else (a,b)::Dk (.pair (.i .i64) (.i .i64)) m k v)=_;by_cases h:k=a
 .rw[z2 (Z7s.2 h),z2 h]
 .rw[z0 (λe=>h (Z7s.1 e)),z0 h];rfl
theorem Q9f {m:List ((Int×Int)×Int)}(hn:(m.map (·.1)).Nodup) {e:(Int×Int)×Int}(he:e∈m):WN m e.1=e.2:=by
 induction m with
 |nil=>cases he
 |cons x m ih =>
  obtain⟨a,b⟩:=x;rw[zx,xI] at hn;rw[Uo];rcases zK.1 he with rfl|he
  .rw[z2 rfl]
  .have:e.1≠a:=λh=>hn.1 (by rw[<-h];exact zC.2 ⟨e,he,rfl⟩);rw[z0 this];exact ih hn.2 he
theorem Q1f {k:Int×Int}:∀ {m:List ((Int×Int)×Int)},(∀ e∈m,e.1≠k)->WN m k=0
 |[],_=>rfl
 |(a,b)::m,h=>by rw[Uo,z0 λe=>h (a,b) (zz ..) e.symm];exact Q1f λe he=>h e (zr _ he)
theorem MapW.get {n mo:Nat}{m:List ((Int×Int)×Int)}{W:Int×Int->Int}(h:MapW n mo m W) (q:Int×Int):WN m q=W q:=by
 by_cases hz:W q=0
 .rw[hz];refine Q1f λe he hq=>?_;have:=h.2.1 e he;rw[hq,hz] at this;omega
 .obtain⟨e,he,rfl⟩:=h.2.2 q hz;rw[Q9f h.1 he];exact(h.2.1 e he).1
theorem Q47 (k:Int×Int) (v:Int):∀ (m:List ((Int×Int)×Int)),(m.map (·.1)).Nodup->(∀ e∈B7 m k v,e=(k,v)\/e∈m/\e.1≠k)/\(k,v)∈B7 m k v/\(∀ e∈m,e.1≠k->e∈B7 m k v)/\((B7 m k v).map (·.1)).Nodup
 |[],_=>⟨λe he=>.inl (zO.1 he),zO.2 rfl,λe he=>(by cases he),List.pairwise_singleton _ _⟩
 |(a,b)::m,hn=>by
  rw[zx,xI] at hn;obtain⟨h1,h2,h3,h4⟩:=Q47 k v m hn.2;rw[UT];by_cases hk:k=a
  .subst hk;rw[z2 rfl];refine⟨λe he=>?_,zz ..,λe he aK=>?_,by rw[zx,xI];exact hn⟩
   .rcases zK.1 he with h|h
    .exact .inl h
    .exact .inr ⟨zr _ h,λe2=>hn.1 (zC.2 ⟨e,h,e2⟩)⟩
   .rcases zK.1 he with h|h
    .rw[h] at aK;exact(aK rfl).elim
    .exact zr _ h
  .rw[z0 hk];refine⟨λe he=>?_,zr _ h2,λe he aK=>?_,?_⟩
   .rcases zK.1 he with h|h
    .subst h;exact .inr ⟨zz ..,λe=>hk e.symm⟩
    .rcases h1 e h with h|h
     .exact .inl h
     .exact .inr ⟨zr _ h.1,h.2⟩
   .rcases zK.1 he with h|h
    .rw[h];exact zz ..
    .exact zr _ (h3 e h aK)
   .rw[zx,xI];refine⟨λhm=>?_,h4⟩;obtain⟨e,he,kn⟩:=zC.1 hm;rcases h1 e he with h|h
    .rw[h] at kn;exact hk kn
    .exact hn.1 (zC.2 ⟨e,h.1,kn⟩)
theorem MapW.add {n mo:Nat}{m:List ((Int×Int)×Int)}{W:Int×Int->Int}(h:MapW n mo m W) (hW:∀ q,0<=W q) {k:Int×Int}{w:Int}(hw:0<w) (hk:k∈Xc n mo):MapW n mo (B7 m k (WN m k+w)) (λq=>W q+if q=k then w else 0):=by
 obtain⟨p1,p2,p3,p4⟩:=Q47 k (WN m k+w) m h.1;have hg:=h.get k;have wj:=hW k;refine⟨p4,λe he=>?_,λq hq=>?_⟩
 .rcases p1 e he with rfl|⟨h1,h2⟩
  .dsimp only;rw[z2 rfl];exact⟨by omega,by omega,hk⟩
  .dsimp only;rw[z0 h2];have:=h.2.1 e h1;exact⟨by omega,this.2⟩
 .by_cases e:q=k
  .exact⟨_,p2,e.symm⟩
  .dsimp only at hq;rw[z0 e] at hq;obtain⟨x,hx,rfl⟩:=h.2.2 q (by omega);exact⟨x,p3 x hx e,rfl⟩
theorem MapW.congr {n mo:Nat}{m:List ((Int×Int)×Int)}{W W':Int×Int->Int}(h:MapW n mo m W) (e:∀ q,W q=W' q):MapW n mo m W':=by have:W=W':=funext e;rw[<-this];exact h
theorem MapW.nil (n mo:Nat):MapW n mo [] λ_=>0:=⟨List.nodup_nil,(λe he=>by cases he),λq hq=>(hq rfl).elim⟩
theorem Gp {n mo:Int}{p:Int×Int}{w:Int}{q:Int×Int}{s:Int}(hw:0<=w):0<=SA n mo p w q s/\SA n mo p w q s<=w:=by unfold SA;split<;>omega
theorem AA {n mo:Int}{wv:Int->Bool}{p:Int×Int}{w:Int}{q:Int×Int}(hw:0<=w):0<=Q14 n mo wv p w q:=by have h0:=(Gp (n:=n) (mo:=mo) (p:=p) (q:=q) (s:=0) hw).1;have h1:=(Gp (n:=n) (mo:=mo) (p:=p) (q:=q) (s:=1) hw).1;have h2:=(Gp (n:=n) (mo:=mo) (p:=p) (q:=q) (s:=2) hw).1;unfold Q14;split<;>omega
theorem RY (n mo:Nat) (wv:Nat->Int->Bool):∀ k q,0<=wyK n mo wv k q
 |0,q=>by simp only[wyK];split<;>omega
 |k+1,q=>Mq λp _=>AA (RY n mo wv k p)
theorem Z2h (n mo:Nat) (wv:Nat->Int->Bool) (hn:0<n):∀ k q,wyK n mo wv k q≠0->q∈Xc n mo
 |0,q,h=>by
  simp only[wyK] at h;split at h
  .rename_i h2;rw[Kw];omega
  .exact(h rfl).elim
 |k+1,q,h=>by
  simp only[wyK] at h;by_cases hq:q∈Xc n mo
  .exact hq
  .exfalso;refine h (LV λp hp=>?_);rw[Kw] at hp hq;have z:∀ s:Int,0<=s->SA n mo p (wyK n mo wv k p) q s=0:=λs hs=>by
    unfold SA;rw[z0];rintro⟨h1,h2⟩;apply hq;have e1:=(Prod.ext_iff.1 h1).1;have e2:=(Prod.ext_iff.1 h1).2;unfold PZ at e1 e2;dsimp only at e1 e2;rw[Int.tmod_eq_emod_of_nonneg (by omega)] at e1;have b1:=Int.emod_nonneg (p.1+s) (show (n:Int)≠0 by omega);have b2:=Int.emod_lt_of_pos (p.1+s) (show (0:Int)<n by omega);split at e2<;>omega
   unfold Q14;rw[z 0 (by omega),z 1 (by omega),z 2 (by omega)];split<;>rfl
theorem Q7v {α:Type}{f:α->Int}{B:Int}(hB:0<=B):∀ {l:List α},l.Nodup->(∀ x∈l,0<=f x/\f x<=B)->(∀ x∈l,∀ y∈l,f x≠0->f y≠0->x=y)->(l.map f).sum<=B
 |[],_,_,_=>hB
 |x::l,hn,hb,h1=>by
  rw[xI] at hn;rw[zx,xB];by_cases hx:f x=0
  .have:=Q7v hB hn.2 (λy hy=>hb y (zr _ hy)) λy hy z hz=>h1 y (zr _ hy) z (zr _ hz);omega
  .have hz:(l.map f).sum=0:=LV λy hy=>by
    by_cases e:f y=0
    .exact e
    .exact(hn.1 (by rw[h1 x (zz ..) y (zr _ hy) hx e];exact hy)).elim
   have:=hb x (zz ..);omega
theorem Z5t {n:Int}{p p':Int×Int}{s:Int}(hs:0<=s) (h1:0<=p.1/\p.1<n) (h2:0<=p'.1/\p'.1<n) (h:PZ n p s=PZ n p' s):p=p':=by
 have e1:=(Prod.ext_iff.1 h).1;have e2:=(Prod.ext_iff.1 h).2;unfold PZ at e1 e2;dsimp only at e1 e2;rw[Int.tmod_eq_emod_of_nonneg (by omega),Int.tmod_eq_emod_of_nonneg (by omega)] at e1;have h3:p.1=p'.1:=by
  have a1:=Int.emod_add_emod p.1 n s;have:=Int.emod_emod_of_dvd;have d:(p.1-p'.1) % n=0:=by
   have:(p.1+s-(p'.1+s)) % n=0:=Int.emod_eq_emod_iff_emod_sub_eq_zero.1 e1
   rwa [show p.1+s-(p'.1+s)=p.1-p'.1 by omega] at this
  obtain⟨c,hc⟩:=Int.dvd_of_emod_eq_zero d;have c1:c<1:=by
   by_cases h:1<=c
   .have:=Int.mul_le_mul_of_nonneg_left h (show 0<=n by omega);omega
   .omega
  have c2:-1<c:=by
   by_cases h:c<=-1
   .have:=Int.mul_le_mul_of_nonneg_left h (show 0<=n by omega);omega
   .omega
  have:c=0:=by omega
  rw[this] at hc;omega
 exact Prod.ext h3 (by omega)
theorem Z3r {α:Type}{f g:α->Int}:∀ {l:List α},(∀ x∈l,f x<=g x)->(l.map f).sum<=(l.map g).sum
 |[],_=>Int.le_refl _
 |x::l,h=>by have h1:=h x (zz ..);have h2:=Z3r (l:=l) λy hy=>h y (zr _ hy);rw[zx,zx,xB,xB];omega
theorem Q2z {α:Type}(f g:α->Int):∀ (l:List α),(l.map λx=>f x+g x).sum=(l.map f).sum+(l.map g).sum
 |[]=>rfl
 |x::l=>by have:=Q2z f g l;rw[zx,zx,zx,xB,xB,xB];omega
theorem Z0m {n mo:Nat}{V:Int×Int->Int}{q:Int×Int}{s B:Int}(hs:0<=s) (hB:0<=B) (hV:∀ p,0<=V p) (hb:∀ p∈Xc n mo,PZ n p s=q->V p<=B):((Xc n mo).map λp=>SA n mo p (V p) q s).sum<=B:=by
 refine Q7v hB (HC n mo) (λp hp=>?_) λp hp p' bu h1 h2=>?_
 .have:=Gp (n:=n) (mo:=mo) (p:=p) (q:=q) (s:=s) (hV p);refine⟨this.1,?_⟩;by_cases hq:PZ n p s=q
  .have:=hb p hp hq;omega
  .unfold SA;rw[z0 λh=>hq h.1];exact hB
 .rw[Kw] at hp bu;have e1:PZ n p s=q:=by
   by_cases h:PZ n p s=q
   .exact h
   .unfold SA at h1;rw[z0 λh'=>h h'.1] at h1;exact(h1 rfl).elim
  have e2:PZ n p' s=q:=by
   by_cases h:PZ n p' s=q
   .exact h
   .unfold SA at h2;rw[z0 λh'=>h h'.1] at h2;exact(h2 rfl).elim
  exact Z5t hs hp.1 bu.1 (e1.trans e2.symm)
theorem Q42 {n mo:Nat}(wv:Nat->Int->Bool) (hn:0<n):∀ (k:Nat) (q:Int×Int),0<=q.2->wyK n mo wv k q<=((2*k+1) ^ q.2.toNat:Nat)
 |0,q,hq=>by simp only[wyK];have:0<(2*0+1) ^ q.2.toNat:=Nat.pow_pos (by omega);split<;>omega
 |k+1,q,hq=>by
  have jl:=RY n mo wv k;have h0:wyK n mo wv (k+1) q<=((Xc n mo).map λp=>(SA n mo p (wyK n mo wv k p) q 0+SA n mo p (wyK n mo wv k p) q 1)+SA n mo p (wyK n mo wv k p) q 2).sum:=Z3r λp _=>by have a0:=(Gp (n:=n) (mo:=mo) (p:=p) (q:=q) (s:=0) (jl p)).1;have a1:=(Gp (n:=n) (mo:=mo) (p:=p) (q:=q) (s:=1) (jl p)).1;have a2:=(Gp (n:=n) (mo:=mo) (p:=p) (q:=q) (s:=2) (jl p)).1;unfold Q14;split<;>omega
  rw[Q2z,Q2z] at h0;obtain⟨f,hf⟩:∃ f:Nat,q.2=f:=⟨q.2.toNat,by omega⟩;have b1:((Xc n mo).map λp=>SA n mo p (wyK n mo wv k p) q 1).sum<=((2*k+1) ^ f:Nat):=Z0m (by omega) (by omega) jl λp hp he=>by
   rw[Kw] at hp;have e2:=(Prod.ext_iff.1 he).2;unfold PZ at e2;dsimp only at e2;rw[z2 rfl] at e2;have:=Q42 (n:=n) (mo:=mo) wv hn k p hp.2.1
   rwa [show p.2.toNat=f by omega] at this
  have bs:∀ s:Int,0<=s->s≠1->((Xc n mo).map λp=>SA n mo p (wyK n mo wv k p) q s).sum<=((if f=0 then 0 else (2*k+1) ^ (f-1):Nat):Int):=λs hs uZ=>Z0m hs (by omega) jl λp hp he=>by
   rw[Kw] at hp;have e2:=(Prod.ext_iff.1 he).2;unfold PZ at e2;dsimp only at e2;rw[z0 uZ] at e2;have:=Q42 (n:=n) (mo:=mo) wv hn k p hp.2.1;rw[z0 (by omega)]
   rwa [show p.2.toNat=f-1 by omega] at this
  have b0:=bs 0 (by omega) (by omega);have b2:=bs 2 (by omega) (by omega);rw[hf,z4];have key:(2*k+1) ^ f+2*(if f=0 then 0 else (2*k+1) ^ (f-1))<=(2*(k+1)+1) ^ f:=by
   cases f with
   |zero=>simp
   |succ g =>
    rw[z0 (by omega),Nat.add_sub_cancel];have hp:(2*k+1) ^ g<=(2*(k+1)+1) ^ g:=Nat.pow_le_pow_left (by omega) g;have h1:(2*k+1) ^ (g+1)+2*(2*k+1) ^ g=(2*k+1) ^ g*(2*(k+1)+1):=by
     rw[Nat.pow_succ];generalize (2*k+1) ^ g=A;have:A*(2*(k+1)+1)=A*(2*k+1)+A*2:=by rw[<-wK];congr 1
     omega
    rw[h1,Nat.pow_succ];exact zj _ hp
  omega
theorem Q59 {α:Type}{d:α}{m:List α}{F:α->Int}{dn:List Nat}(hn:dn.Nodup) (aj:∀ r∈dn,r<m.length) (hF:∀ x∈m,0<=F x):(dn.map λr=>F (m.getD r d)).sum<=(m.map F).sum/\((∀ r,r<m.length->r∈dn)->(dn.map λr=>F (m.getD r d)).sum=(m.map F).sum):=by
 have e:m.map F=(List.range m.length).map λr=>F (m.getD r d):=by
  refine List.ext_getElem (by simp) λi h1 h2=>?_;have hi:i<m.length:=by simpa using h1
  rw[xq,xq,List.getElem_range,Qg hi]
 have hp:(dn++(List.range m.length).filter λr=>!dn.contains r).Perm (List.range m.length):=by
  refine (xS (List.nodup_append.2 ⟨hn,(List.nodup_range (n:=m.length)).filter _,λa ha b hb e=>?_⟩) List.nodup_range).2 λa=>?_
  .subst e;have:=(zU.1 hb).2;simp[ha] at this
  .rw[xk,zU,zS];constructor
   .rintro (h|h)
    .exact aj a h
    .exact h.1
   .intro h;by_cases hc:a∈dn
    .exact .inl hc
    .exact .inr ⟨h,by simpa using hc⟩
 rw[e,<-Q5h (hp.map λr=>F (m.getD r d)),Ow];constructor
 .have:0<=(((List.range m.length).filter λr=>!dn.contains r).map λr=>F (m.getD r d)).sum:=Mq λr hr=>by
   have hr:=zS.1 (zU.1 hr).1;rw[Qg hr];exact hF _ (zh hr)
  omega
 .intro h;have:(List.range m.length).filter (λr=>!dn.contains r)=[]:=List.filter_eq_nil_iff.2 λr hr=>by have:=h r (zS.1 hr);simp[this]
  rw[this];simp
def wvB (hk:Int) (cs:List YQ) (cl:List Int) (k:Nat) (a:Int):Bool:=(cl.getD k 0==-1)||(cl.getD k 0==BP hk (cs.getD a.toNat Ya))
theorem Q1b (k:Int×Int) (a b:Int):∀ m:List ((Int×Int)×Int),B7 (B7 m k a) k b=B7 m k b
 |[]=>by show B7 [(k,a)] k b=[(k,b)];rw[UT,z2 rfl]
 |(x,v)::m=>by
  rw[UT,UT];by_cases h:k=x
  .rw[z2 h,z2 h,UT,z2 rfl]
  .rw[z0 h,z0 h,UT,z0 h,Q1b k a b m]
theorem Q18 (k q:Int×Int) (v:Int):∀ m:List ((Int×Int)×Int),WN (B7 m k v) q=if q=k then v else WN m q
 |[]=>by show WN [(k,v)] q=_;rw[Uo]
 |(x,w)::m=>by
  rw[UT];by_cases h:k=x
  .subst h;rw[z2 rfl,Uo,Uo];split<;>rfl
  .rw[z0 h,Uo,Q18 k q v m,Uo];by_cases h2:q=x
   .subst h2;rw[z2 rfl,z2 rfl,z0 (λe=>h e.symm)]
   .rw[z0 h2,z0 h2]
def Q7c (n mo:Int) (p:Int×Int) (w:Int) (m:List ((Int×Int)×Int)) (s:Int):List ((Int×Int)×Int):=if (PZ n p s).2<=mo then B7 m (PZ n p s) (WN m (PZ n p s)+w) else m
def Z63 (n mo:Int) (p:Int×Int) (w:Int) (m:List ((Int×Int)×Int)):List ((Int×Int)×Int):=Q7c n mo p w (Q7c n mo p w (Q7c n mo p w m 0) 1) 2
theorem Z1n (n mo:Int) (p:Int×Int) (w:Int) (m:List ((Int×Int)×Int)) (s:Int) (q:Int×Int):WN (Q7c n mo p w m s) q=WN m q+SA n mo p w q s:=by
 unfold Q7c SA;by_cases h:(PZ n p s).2<=mo
 .rw[z2 h,Q18];by_cases e:q=PZ n p s
  .rw[z2 e,z2 ⟨e.symm,by rw[e];exact h⟩,e]
  .rw[z0 e,z0 (λx=>e x.1.symm)];omega
 .rw[z0 h,z0 (λx=>h (by rw[x.1];exact x.2))];omega
theorem Q7y {n mo:Nat}{m:List ((Int×Int)×Int)}{W:Int×Int->Int}(h:MapW n mo m W) (hW:∀ q,0<=W q) {p:Int×Int}{w s:Int}(hw:0<w) (hn:0<n) (hp:0<=p.1/\0<=p.2) (hs:0<=s):MapW n mo (Q7c n mo p w m s) (λq=>W q+SA n mo p w q s):=by
 unfold Q7c;by_cases hc:(PZ n p s).2<=mo
 .rw[z2 hc];refine (h.add hW hw (k:=PZ n p s) ?_).congr λq=>?_
  .rw[Kw];have b1:=Int.emod_nonneg (p.1+s) (show (n:Int)≠0 by omega);have b2:=Int.emod_lt_of_pos (p.1+s) (show (0:Int)<n by omega);refine⟨?_,?_,hc⟩
   .unfold PZ;dsimp only;rw[Int.tmod_eq_emod_of_nonneg (by omega)];exact⟨b1,b2⟩
   .unfold PZ;dsimp only;split<;>omega
  .unfold SA;by_cases e:q=PZ n p s
   .rw[z2 e,z2 ⟨e.symm,by rw[e];exact hc⟩]
   .rw[z0 e,z0 (λx=>e x.1.symm)]
 .rw[z0 hc];exact h.congr λq=>by
   unfold SA;rw[z0 (λx=>hc (by rw[x.1];exact x.2))];omega
theorem Z6w {n mo:Nat}{m:List ((Int×Int)×Int)}{W:Int×Int->Int}(h:MapW n mo m W) (hW:∀ q,0<=W q) {p:Int×Int}{w:Int}(hw:0<w) (hn:0<n) (hp:0<=p.1/\0<=p.2):MapW n mo (Z63 n mo p w m) (λq=>W q+(SA n mo p w q 0+SA n mo p w q 1+SA n mo p w q 2)):=by have z:=λq s=>(Gp (n:=n) (mo:=mo) (p:=p) (q:=q) (s:=s) (Int.le_of_lt hw)).1;have h1:=Q7y h hW hw hn hp (s:=0) (by omega);have h2:=Q7y h1 (λq=>by have:=hW q;have:=z q 0;omega) hw hn hp (s:=1) (by omega);have h3:=Q7y h2 (λq=>by have:=hW q;have:=z q 0;have:=z q 1;omega) hw hn hp (s:=2) (by omega);exact h3.congr λq=>by omega
def YR:AL (Int×Int×(List (Int×Int×Bool))×Int):=(.cons (.k (.i .i64)) (.one (.ptr (.cons (.k (.i .i64)) (.cons (.k (.list (.pair (.i .i64) (.pair (.i .i64) .bo)))) (.one (.k (.i .i64))))))))
def Gr (d:Int×Int×(List (Int×Int×Bool))×Int):Prop:=1<=d.2.2.2/\d.2.2.2<=24
def YH (d:Int×Int×(List (Int×Int×Bool))×Int):SV:=.val .bo (decide (d.1≠-1)&&!inI d.1 0 (2 ^ d.2.2.2.toNat-1))
def Yb (d:Int×Int×(List (Int×Int×Bool))×Int):List OB:=[]
def XF:CSp:=XD YR Gr YH Yb
def J2 (r:Int) (hk:Int) (cs:List (Int×Int×Bool)) (f:Int):Prop :=
 ((r != (-1:Int))=true->True)/\((r != (-1:Int))=true->1<=f/\f<=24/\[r].length<=1000000)/\(((r != (-1:Int))&&(!(!([r].any λn=>!inI n 0 (2 ^ f.toNat-1)))))=(decide (r≠-1)&&!inI r 0 (2 ^ f.toNat-1))/\(True))
def K2:Cx:=⟨[(3,(.i .i64))],[(27,ZA)],14,[],0,[],[],[],[],false,[],[],[],[]⟩
def Dp (r:Int) (hk:Int) (cs:List (Int×Int×Bool)) (f:Int):List (Nat×LoopAnn):=[]
theorem Dt (d:Int×Int×(List (Int×Int×Bool))×Int):gwp (K2) (Dp d.1 d.2.1 d.2.2.1 d.2.2.2) c83 0 (Wj [.tmp 3] (YH d) (Yb d)) (Qp 14 (AL.can YR d))=J2 d.1 d.2.1 d.2.2.1 d.2.2.2:=by kernel_rfl
abbrev DK:Prop:=OkC Tryz.prog 83 XF
theorem Dy (h:∀ (r:Int) (hk:Int) (cs:List (Int×Int×Bool)) (f:Int),(1<=f/\f<=24)->J2 r hk cs f):OkC Tryz.prog 83 XF :=
 Qs J0k mixed (C:=K2) (V:=λ(d:Int×Int×(List (Int×Int×Bool))×Int)=>J2 d.1 d.2.1 d.2.2.1 d.2.2.2) ⟨(.cons Xm .nil),XsOk.nil,ItsOk.nil,YlOk.nil,IysOk.nil,XfOk.nil⟩ (Dt) λd hp=>h d.1 d.2.1 d.2.2.1 d.2.2.2 hp
theorem DL:DK:=Dy λr hk cs f h=>by
 unfold J2;(try delta lI gD sT I64 Q2 pj8 pj4);refine⟨λ_=>trivial,λ_=>⟨h.1,h.2,by simp⟩,?_,trivial⟩;simp only[List.any_cons,List.any_nil,xN,Bool.not_not];congr 1;by_cases e:r=-1
 .subst e;rfl
 .simp[e]
def PG:AL (Int):=(.one (.k (.i .i64)))
def AV (d:Int):Prop:=True
def Bz (d:Int):SV:=.val (.i .i64) (if d=1 then 0 else 1)
def Bg (d:Int):List OB:=[]
def Ge:CSp:=XD PG AV Bz Bg
def KD (s:Int):Prop :=
 ((s==(1:Int))=true ->
  ((0:Int)=(if s=1 then 0 else 1)/\(True))) /\
 ((s==(1:Int))=false ->
  ((1:Int)=(if s=1 then 0 else 1)/\(True)))
def PJ:Cx:=⟨[],[],5,[],0,[],[],[],[],false,[],[],[],[]⟩
def EI (s:Int):List (Nat×LoopAnn):=[]
theorem Ew (d:Int):gwp (PJ) (EI d) c99 0 (Wj [.tmp 2] (Bz d) (Bg d)) (Qp 5 (AL.can PG d))=KD d:=by kernel_rfl
abbrev Fh:Prop:=OkC Tryz.prog 99 Ge
theorem Fs (h:∀ (s:Int),(True)->KD s):OkC Tryz.prog 99 Ge :=
 Qs J00 mixed (C:=PJ) (V:=λ(d:Int)=>KD d) ⟨.nil,XsOk.nil,ItsOk.nil,YlOk.nil,IysOk.nil,XfOk.nil⟩ (Ew) λd hp=>h d hp
theorem FN:Fh:=Fs λs _=>by
 unfold KD;(try delta lI gD sT I64 Q2 pj8 pj4);refine⟨λc=>⟨?_,trivial⟩,λc=>⟨?_,trivial⟩⟩
 .rw[z2 (eq_of_beq c)]
 .rw[z0 (λe=>by rw[e] at c;cases c)]
def Y2:AL ((Int×(List (Int×Int×Bool))×Int×List Int)×Int×Int):=(.cons (.agg (.cons (.k (.i .i64)) (.cons (.k (.list (.pair (.i .i64) (.pair (.i .i64) .bo)))) (.cons (.k (.i .i64)) (.one (.k (.list (.i .i64)))))))) (.cons (.k (.i .i64)) (.one (.k (.i .i64)))))
def NN (d:(Int×(List (Int×Int×Bool))×Int×List Int)×Int×Int):Prop:=1<=d.1.2.2.1/\d.1.2.2.1<=24/\0<=d.2.1/\d.2.1<d.1.2.2.2.length/\0<=d.2.2/\d.2.2<d.1.2.1.length/\∀ c∈d.1.2.1,Zt d.1.2.2.1 c=true
def Wl (d:(Int×(List (Int×Int×Bool))×Int×List Int)×Int×Int):SV:=.val .bo (wvB d.1.2.2.1 d.1.2.1 d.1.2.2.2 d.2.1.toNat d.2.2)
def Wy (d:(Int×(List (Int×Int×Bool))×Int×List Int)×Int×Int):List OB:=[]
def X5:CSp:=XD Y2 NN Wl Wy
def ZJ (hk:Int) (cs:List (Int×Int×Bool)) (f:Int) (cl:List Int) (pk:Int) (at_:Int):Prop :=
 (0<=pk)/\(pk<(List.length cl))/\(((gD cl pk 0)==(-1:Int))=false->0<=pk)/\(((gD cl pk 0)==(-1:Int))=false->pk<(List.length cl))/\(((gD cl pk 0)==(-1:Int))=false->1<=f/\f<=24/\0<=at_/\at_<cs.length/\∀ c∈cs,Zt f c=true)/\((((gD cl pk 0)==(-1:Int))||((gD cl pk 0)==(BP f (cs.getD at_.toNat Ya))))=(wvB f cs cl pk.toNat at_)/\(True))
def Y7:Cx:=⟨[],[(35,Xu)],25,[],0,[],[],[],[],false,[],[],[],[]⟩
def M9 (hk:Int) (cs:List (Int×Int×Bool)) (f:Int) (cl:List Int) (pk:Int) (at_:Int):List (Nat×LoopAnn):=[]
theorem Ml (d:(Int×(List (Int×Int×Bool))×Int×List Int)×Int×Int):gwp (Y7) (M9 d.1.1 d.1.2.1 d.1.2.2.1 d.1.2.2.2 d.2.1 d.2.2) c84 0 (Wj [.tmp 6] (Wl d) (Wy d)) (Qp 25 (AL.can Y2 d))=ZJ d.1.1 d.1.2.1 d.1.2.2.1 d.1.2.2.2 d.2.1 d.2.2:=by kernel_rfl
abbrev MU:Prop:=OkC Tryz.prog 84 X5
theorem Mc (h:∀ (hk:Int) (cs:List (Int×Int×Bool)) (f:Int) (cl:List Int) (pk:Int) (at_:Int),(1<=f/\f<=24/\0<=pk/\pk<cl.length/\0<=at_/\at_<cs.length/\∀ c∈cs,Zt f c=true)->ZJ hk cs f cl pk at_):OkC Tryz.prog 84 X5 :=
 Qs Z9u mixed (C:=Y7) (V:=λ(d:(Int×(List (Int×Int×Bool))×Int×List Int)×Int×Int)=>ZJ d.1.1 d.1.2.1 d.1.2.2.1 d.1.2.2.2 d.2.1 d.2.2) ⟨(.cons UL .nil),XsOk.nil,ItsOk.nil,YlOk.nil,IysOk.nil,XfOk.nil⟩ (Ml) λd hp=>h d.1.1 d.1.2.1 d.1.2.2.1 d.1.2.2.2 d.2.1 d.2.2 hp
theorem Mk:MU:=Mc λhk cs f cl pk at_ h=>by obtain⟨h1,h2,h3,h4,h5,h6,h7⟩:=h;unfold ZJ;(try delta lI gD sT I64 Q2 pj8 pj4);exact⟨h3,h4,λ_=>h3,λ_=>h4,λ_=>⟨h1,h2,h5,h6,h7⟩,(by and_intros<;>first|rfl|trivial|simp)⟩
def YJ:AL ((Int×(List (Int×Int×Bool))×Int×List Int)×(Int×Int)×Int×Int):=(.cons (.agg (.cons (.k (.i .i64)) (.cons (.k (.list (.pair (.i .i64) (.pair (.i .i64) .bo)))) (.cons (.k (.i .i64)) (.one (.k (.list (.i .i64)))))))) (.cons (.agg (.cons (.k (.i .i64)) (.one (.k (.i .i64))))) (.cons (.k (.i .i64)) (.one (.k (.i .i64))))))
def MX (m:List ((Int×Int)×Int)) (a:(Int×(List (Int×Int×Bool))×Int×List Int)×(Int×Int)×Int×Int):Prop:=0<=a.2.1.1/\a.2.1.1<a.1.2.1.length/\a.1.2.1.length<=60/\0<=a.2.1.2/\a.2.1.2<=6/\0<=a.2.2.2/\a.2.2.2<=6/\0<=a.2.2.1/\a.2.2.1<=4000000000000000/\∀ q,0<=WN m q/\WN m q<=4000000000000000
def YD (m:List ((Int×Int)×Int)) (a:(Int×(List (Int×Int×Bool))×Int×List Int)×(Int×Int)×Int×Int):SV:=.tup []
def WU (m:List ((Int×Int)×Int)) (a:(Int×(List (Int×Int×Bool))×Int×List Int)×(Int×Int)×Int×Int) (m2:List ((Int×Int)×Int)):Prop:=m2=Z63 a.1.2.1.length a.2.2.2 (a.2.1.1,a.2.1.2) a.2.2.1 m
def XW:XSp:=Q64 Sx 1 (.pair (.i .i64) (.i .i64)) (.i .i64) (Z6a YJ MX YD WU)
def ZX (m:List ((Int×Int)×Int)) (hk:Int) (cs:List (Int×Int×Bool)) (f:Int) (cl:List Int) (sa:Int) (sf:Int) (wy:Int) (mo:Int):Prop:=∀ vals:List Value,
 ∃ (e3:Unit) (d30:(List ((Int×Int)×Int))×Int),((True/\wy=wy/\mo=mo/\True/\True/\(0:Int)=d30.2/\True)/\((m=d30.1)/\(hk=hk/\cs=cs/\f=f/\cl=cl/\(([]:List SV)=[]))/\(sa=sa/\sf=sf/\(([]:List SV)=[]))/\(vals=vals/\(True/\(([]:List SV)=[])))/\True)) /\
 LoopP (λ(d3:(List ((Int×Int)×Int))×Int) (q3:((List ((Int×Int)×Int))×Int)->Prop) =>
  ((decide (d3.2<(3:Int)))=true ->
   (cs≠[]/\cs.length<=1000/\-1000000<=sa/\sa<=1000000/\-1000000<=d3.2/\d3.2<=1000000)/\(True)/\(I64 (sf+(if d3.2=1 then 0 else 1)))/\((True/\wy=wy/\mo=mo/\True/\True/\True/\d3.2=d3.2/\((Int.tmod (sa+d3.2) cs.length)=(Int.tmod (sa+d3.2) cs.length)/\(sf+(if d3.2=1 then 0 else 1))=(sf+(if d3.2=1 then 0 else 1))/\(([]:List SV)=[]))/\True)/\((d3.1=d3.1)/\(hk=hk/\cs=cs/\f=f/\cl=cl/\(([]:List SV)=[]))/\(sa=sa/\sf=sf/\(([]:List SV)=[]))/\((0:Int)=(0:Int)/\(0:Int)=(0:Int)/\(([]:List SV)=[]))/\(vals=vals/\(True/\(([]:List SV)=[])))/\True))/\((cs≠[]/\cs.length<=1000/\-1000000<=sa/\sa<=1000000/\-1000000<=d3.2/\d3.2<=1000000)/\(True)/\(I64 (sf+(if d3.2=1 then 0 else 1)))/\((True/\wy=wy/\mo=mo/\True/\True/\True/\d3.2=d3.2/\((Int.tmod (sa+d3.2) cs.length)=(Int.tmod (sa+d3.2) cs.length)/\(sf+(if d3.2=1 then 0 else 1))=(sf+(if d3.2=1 then 0 else 1))/\(([]:List SV)=[]))/\True)/\((d3.1=d3.1)/\(hk=hk/\cs=cs/\f=f/\cl=cl/\(([]:List SV)=[]))/\(sa=sa/\sf=sf/\(([]:List SV)=[]))/\((0:Int)=(0:Int)/\(0:Int)=(0:Int)/\(([]:List SV)=[]))/\(vals=vals/\(True/\(([]:List SV)=[])))/\True)))/\((cs≠[]/\cs.length<=1000/\-1000000<=sa/\sa<=1000000/\-1000000<=d3.2/\d3.2<=1000000)/\(True)/\(I64 (sf+(if d3.2=1 then 0 else 1)))/\((True/\wy=wy/\mo=mo/\True/\True/\True/\d3.2=d3.2/\((Int.tmod (sa+d3.2) cs.length)=(Int.tmod (sa+d3.2) cs.length)/\(sf+(if d3.2=1 then 0 else 1))=(sf+(if d3.2=1 then 0 else 1))/\(([]:List SV)=[]))/\True)/\((d3.1=d3.1)/\(hk=hk/\cs=cs/\f=f/\cl=cl/\(([]:List SV)=[]))/\(sa=sa/\sf=sf/\(([]:List SV)=[]))/\((0:Int)=(0:Int)/\(0:Int)=(0:Int)/\(([]:List SV)=[]))/\(vals=vals/\(True/\(([]:List SV)=[])))/\True)))/\((decide ((sf+(if d3.2=1 then 0 else 1))<=mo))=true ->
    (I64 ((gq.aget (.pair (.i .i64) (.i .i64)) d3.1 ((Int.tmod (sa+d3.2) cs.length),(sf+(if d3.2=1 then 0 else 1))) 0)+wy))/\∀ n4:Int,
     n4=n4 /\
     (I64 (d3.2+(1:Int)))/\(∃ d5:(List ((Int×Int)×Int))×Int,((True/\wy=wy/\mo=mo/\True/\True/\(d3.2+(1:Int))=d5.2/\True)/\(((Dk (.pair (.i .i64) (.i .i64)) (Dk (.pair (.i .i64) (.i .i64)) d3.1 ((Int.tmod (sa+d3.2) cs.length),(sf+(if d3.2=1 then 0 else 1))) (gq.aget (.pair (.i .i64) (.i .i64)) d3.1 ((Int.tmod (sa+d3.2) cs.length),(sf+(if d3.2=1 then 0 else 1))) 0)) ((Int.tmod (sa+d3.2) cs.length),(sf+(if d3.2=1 then 0 else 1))) ((gq.aget (.pair (.i .i64) (.i .i64)) d3.1 ((Int.tmod (sa+d3.2) cs.length),(sf+(if d3.2=1 then 0 else 1))) 0)+wy))=d5.1)/\(hk=hk/\cs=cs/\f=f/\cl=cl/\(([]:List SV)=[]))/\(sa=sa/\sf=sf/\(([]:List SV)=[]))/\(vals=vals/\(True/\(([]:List SV)=[])))/\True))/\q3 d5)) /\
   ((decide ((sf+(if d3.2=1 then 0 else 1))<=mo))=false ->
    (I64 (d3.2+(1:Int)))/\(∃ d6:(List ((Int×Int)×Int))×Int,((True/\wy=wy/\mo=mo/\True/\True/\(d3.2+(1:Int))=d6.2/\True)/\((d3.1=d6.1)/\(hk=hk/\cs=cs/\f=f/\cl=cl/\(([]:List SV)=[]))/\(sa=sa/\sf=sf/\(([]:List SV)=[]))/\(vals=vals/\(True/\(([]:List SV)=[])))/\True))/\q3 d6))) /\
  ((decide (d3.2<(3:Int)))=false ->
   (vals=vals/\(True/\(([]:List SV)=[]))/\((([]:List SV)=[]))/\(d3.1=Z63 cs.length mo (sa,sf) wy m)))) d30
def YT:Cx:=⟨[],[(36,Jg),(99,Ge)],39,[],0,[],[],[],[1,3,4,5,7,11,12,26],false,[],[],[],[]⟩
def K3 (m:List ((Int×Int)×Int)) (hk:Int) (cs:List (Int×Int×Bool)) (f:Int) (cl:List Int) (sa:Int) (sf:Int) (wy:Int) (mo:Int) (vals:List Value):List (Nat×LoopAnn):=[(0,⟨Unit,(List ((Int×Int)×Int))×Int,[1,3,4,5,7,12],λe x=>[.map 0,.val (.i .i64) wy,.val (.i .i64) mo,.box 5 0,.box 7 0,.val (.i .i64) x.2],λe x=>[(0,.slot 1,.map (.pair (.i .i64) (.i .i64)) (.i .i64) x.1),(5,.slot 5,.cells [.val (.i .i64) hk,.val (.list (.pair (.i .i64) (.pair (.i .i64) .bo))) cs,.val (.i .i64) f,.val (.list (.i .i64)) cl] (some 137)),(7,.slot 7,.cells [.val (.i .i64) sa,.val (.i .i64) sf] (some 114)),(4000000,.key 4000000,.stk [.map 0] vals)]⟩)]
theorem Dl (m:List ((Int×Int)×Int)) (a:(Int×(List (Int×Int×Bool))×Int×List Int)×(Int×Int)×Int×Int):(∀ vals,gwp YT (K3 m a.1.1 a.1.2.1 a.1.2.2.1 a.1.2.2.2 a.2.1.1 a.2.1.2 a.2.2.1 a.2.2.2 vals) c85 0 (O2 vals [] (YD m a) (.pair (.i .i64) (.i .i64)) (.i .i64) (WU m a)) (Bv 39 1 (.pair (.i .i64) (.i .i64)) (.i .i64) m vals (AL.can YJ a)))=ZX m a.1.1 a.1.2.1 a.1.2.2.1 a.1.2.2.2 a.2.1.1 a.2.1.2 a.2.2.1 a.2.2.2:=by kernel_rfl
abbrev Dr:Prop:=XOk Tryz.prog 85 XW
theorem DF (h:∀ (m:List ((Int×Int)×Int)) (hk:Int) (cs:List (Int×Int×Bool)) (f:Int) (cl:List Int) (sa:Int) (sf:Int) (wy:Int) (mo:Int),(0<=sa/\sa<cs.length/\cs.length<=60/\0<=sf/\sf<=6/\0<=mo/\mo<=6/\0<=wy/\wy<=4000000000000000/\∀ q,0<=WN m q/\WN m q<=4000000000000000)->ZX m hk cs f cl sa sf wy mo):XOk Tryz.prog 85 XW :=
 O8 Z8a mixed M8 rfl (C:=YT) ⟨(.cons WQ (.cons FN .nil)),XsOk.nil,ItsOk.nil,YlOk.nil,IysOk.nil,XfOk.nil⟩ (L:=λm (a:(Int×(List (Int×Int×Bool))×Int×List Int)×(Int×Int)×Int×Int) vals=>K3 m a.1.1 a.1.2.1 a.1.2.2.1 a.1.2.2.2 a.2.1.1 a.2.1.2 a.2.2.1 a.2.2.2 vals) (V:=λm (a:(Int×(List (Int×Int×Bool))×Int×List Int)×(Int×Int)×Int×Int)=>ZX m a.1.1 a.1.2.1 a.1.2.2.1 a.1.2.2.2 a.2.1.1 a.2.1.2 a.2.2.1 a.2.2.2) Dl λm a hp=>h m a.1.1 a.1.2.1 a.1.2.2.1 a.1.2.2.2 a.2.1.1 a.2.1.2 a.2.2.1 a.2.2.2 hp
theorem G6:Dr:=DF λm hk cs f cl sa sf wy mo h=>by
 obtain⟨h1,h2,h3,h4,h5,h6,h7,h8,h9,bM⟩:=h;unfold ZX;(try delta lI gD sT I64 Q2 pj8 pj4);intro vals;have aK:cs≠[]:=λe=>by rw[e] at h2;simp at h2;omega
 refine⟨(),(m,0),(by and_intros<;>first|rfl|trivial),?_⟩
 let P:Nat->List ((Int×Int)×Int):=λk=>match k with
  |0=>m
  |1=>Q7c cs.length mo (sa,sf) wy m 0
  |2=>Q7c cs.length mo (sa,sf) wy (Q7c cs.length mo (sa,sf) wy m 0) 1
  |_=>Z63 cs.length mo (sa,sf) wy m
 have hP:∀ k:Nat,k<3->P (k+1)=Q7c cs.length mo (sa,sf) wy (P k) k:=λk hk=>by
  match k,hk with
  |0,_=>rfl
  |1,_=>rfl
  |2,_=>rfl
 have hb:∀ k:Nat,k<=3->∀ q,0<=WN (P k) q/\WN (P k) q<=4000000000000000+k*4000000000000000:=λk=>by
  induction k with
  |zero=>intro _ q;have:=bM q;exact⟨this.1,by show WN m q<=_;omega⟩
  |succ k ih =>intro hk q;rw[hP k (by omega),Z1n];have a1:=ih (by omega) q;have a2:=Gp (n:=cs.length) (mo:=mo) (p:=(sa,sf)) (q:=q) (s:=(k:Int)) h8;omega
 refine LoopP.count2 3 (λk d=>d=P k) rfl ?_;intro k d oC hd q hq;subst hd;dsimp only;refine⟨λg=>?_,λg=>?_⟩
 .have g:k<3:=by have:=z7 g;omega
  have cz:=λx'=>hq x' g;have hs:I64 (sf+(if (k:Int)=1 then 0 else 1)):=by (try delta I64);simp only[Q7];split<;>omega
  have lC:cs≠[]/\cs.length<=1000/\-1000000<=sa/\sa<=1000000/\-1000000<=(k:Int)/\(k:Int)<=1000000:=⟨aK,by omega,by omega,by omega,by omega,by omega⟩;refine⟨lC,trivial,hs,by and_intros<;>first|rfl|trivial,⟨lC,trivial,hs,by and_intros<;>first|rfl|trivial⟩,⟨lC,trivial,hs,by and_intros<;>first|rfl|trivial⟩,λc=>?_,λc=>?_⟩
  .have c:=z7 c;have wk:=hb k (by omega) (PZ cs.length (sa,sf) k);have e1:gq.aget (.pair (.i .i64) (.i .i64)) (P k) ((Int.tmod (sa+(k:Int)) cs.length),(sf+(if (k:Int)=1 then 0 else 1))) (0:Int)=WN (P k) (PZ cs.length (sa,sf) k):=rfl;refine⟨?_,λn4=>⟨rfl,?_,?_⟩⟩
   .rw[e1];simp only[Q7];omega
   .simp only[Q7];omega
   .refine⟨(P (k+1),(k:Int)+1),?_,cz _ rfl⟩;have e2:P (k+1)=B7 (B7 (P k) (PZ cs.length (sa,sf) k) (WN (P k) (PZ cs.length (sa,sf) k))) (PZ cs.length (sa,sf) k) (WN (P k) (PZ cs.length (sa,sf) k)+wy):=by
     rw[Q1b,hP k g];unfold Q7c;rw[z2 (show (PZ cs.length (sa,sf) k).2<=mo from c)]
    refine⟨by and_intros<;>first|rfl|trivial,?_⟩;refine⟨e2.symm,?_⟩;and_intros<;>first|rfl|trivial
  .have c:=z6 c;refine⟨by simp only[Q7];omega,(P (k+1),(k:Int)+1),⟨by and_intros<;>first|rfl|trivial,?_⟩,cz _ rfl⟩;refine⟨?_,by and_intros<;>first|rfl|trivial⟩;show P k=P (k+1);rw[hP k g];unfold Q7c;rw[z0 (show ¬ (PZ cs.length (sa,sf) k).2<=mo from c)]
 .have g:k=3:=by have:=z6 g;omega
  subst g;and_intros<;>first|rfl|trivial
theorem I7:∀ {l m:List Nat},l.Nodup->(∀ x∈l,x∈m)->l.length<=m.length
 |[],_,_,_=>Nat.zero_le _
 |x::l,m,hn,hs=>by rw[xI] at hn;have hx:x∈m:=hs x (zz ..);have:=I7 (l:=l) (m:=m.erase x) hn.2 λy hy=>(List.mem_erase_of_ne (by rintro rfl;exact hn.1 hy)).2 (hs y (zr _ hy));rw[List.length_erase_of_mem hx] at this;have:=List.length_pos_of_mem hx;rw[zJ];omega
theorem F_ {dn:List Nat}{r:Nat}(h:dn.Nodup) (hr:r∉dn):(dn++[r]).Nodup :=
 List.nodup_append.2 ⟨h,List.pairwise_singleton _ _,λa ha b hb e=>by rw[zO] at hb;subst hb;subst e;exact hr ha⟩
theorem LoopP.rng {X:Type}{F:X×List Nat->(X×List Nat->Prop)->Prop}(n:Nat) (J:X->List Nat->Prop) {x0:X}(h0:J x0 [])
  (hr:∀ (x:X) (dn:List Nat),dn.Nodup->(∀ r∈dn,r<n)->J x dn->∀ q:X×List Nat->Prop,(∀ (r:Nat) (x':X),r<n->r∉dn->J x' (dn++[r])->q (x',dn++[r]))->F (x,dn) q):LoopP F (x0,[]):=by
 refine⟨λd=>d.2.Nodup/\(∀ r∈d.2,r<n)/\J d.1 d.2,λd=>n-d.2.length,⟨List.nodup_nil,(λr hr=>by cases hr),h0⟩,λ⟨x,dn⟩ ⟨h1,h2,h3⟩=>?_⟩;have h1:dn.Nodup:=h1;refine hr x dn h1 h2 h3 _ λr x' aj iU hJ=>?_;have hn:=F_ h1 iU;have hb:∀ y∈dn++[r],y<n:=λy hy=>by
  rcases xk.1 hy with h|h
  .exact h2 y h
  .rw[zO] at h;omega
 refine⟨⟨hn,hb,hJ⟩,?_⟩;have:=I7 hn (m:=List.range n) λy hy=>zS.2 (hb y hy);rw[wC,zP,xm] at this;have e:(dn++[r]).length=dn.length+1:=by simp
 show n-(dn++[r]).length<n-dn.length;omega
theorem J17 {b e:Nat}(hb:b<=121) (he:e<=6):b ^ e<=3138428376721:=by
 have h1:b ^ e<=121 ^ e:=Nat.pow_le_pow_left hb e;have h2:121 ^ e<=121 ^ 6:=Nat.pow_le_pow_right (by omega) he;have h3:121 ^ 6=3138428376721:=by decide
 omega
theorem Z6g {n mo:Nat}(wv:Nat->Int->Bool) (hn:0<n) (gB:mo<=6) {k:Nat}(hk:k<=60) (q:Int×Int):0<=wyK n mo wv k q/\wyK n mo wv k q<=4000000000000000:=by
 refine⟨RY n mo wv k q,?_⟩;by_cases hz:wyK n mo wv k q=0
 .omega
 .have hg:=Kw.1 (Z2h n mo wv hn k q hz);have h1:=Q42 (n:=n) (mo:=mo) wv hn k q hg.2.1;have h2:=J17 (b:=2*k+1) (e:=q.2.toNat) (by omega) (by omega);omega
def Z4e (k:Nat) (q:Int×Int):Int:=if 0<=q.1/\q.1<(k:Int)/\q.2=0 then 1 else 0
theorem Z1t {n mo:Nat}{m:List ((Int×Int)×Int)}{k:Nat}(h:MapW n mo m (Z4e k)) (hk:k<n):MapW n mo (B7 m ((k:Int),0) 1) (Z4e (k+1)):=by
 have hg:WN m ((k:Int),0)=0:=by rw[h.get];unfold Z4e;rw[z0 (by dsimp only;omega)]
 have:=h.add (λq=>by unfold Z4e;split<;>omega) (k:=((k:Int),0)) (w:=1) (by omega) (by rw[Kw];dsimp only;omega);rw[hg] at this;refine this.congr λq=>?_;unfold Z4e;by_cases e:q=((k:Int),0)
 .subst e;rw[z0 (by dsimp only;omega),z2 rfl,z2 (by dsimp only;omega)];rfl
 .rw[z0 e];have:¬ (q.1=k/\q.2=0):=λh=>e (Prod.ext h.1 h.2);by_cases c:0<=q.1/\q.1<(k:Int)/\q.2=0
  .rw[z2 c,z2 (by omega)];rfl
  .rw[z0 c,z0 (by omega)];rfl
def Z4t (n mo:Nat) (wv:Int->Bool) (m:List ((Int×Int)×Int)) (dn:List Nat) (q:Int×Int):Int:=(dn.map λr=>Q14 n mo wv (m.getD r ((0,0),0)).1 (m.getD r ((0,0),0)).2 q).sum
theorem Q16 (n mo:Nat) (wv:Int->Bool) (m:List ((Int×Int)×Int)) (dn:List Nat) (r:Nat) (q:Int×Int):Z4t n mo wv m (dn++[r]) q=Z4t n mo wv m dn q+Q14 n mo wv (m.getD r ((0,0),0)).1 (m.getD r ((0,0),0)).2 q:=by unfold Z4t;rw[Ow];simp
theorem Z3l {n mo:Nat}{wv:Nat->Int->Bool}{k:Nat}{m:List ((Int×Int)×Int)}(h:MapW n mo m (wyK n mo wv k)) {dn:List Nat}(hn:dn.Nodup) (aj:∀ r∈dn,r<m.length) (q:Int×Int) :
  0<=Z4t n mo (wv k) m dn q/\Z4t n mo (wv k) m dn q<=wyK n mo wv (k+1) q/\((∀ r,r<m.length->r∈dn)->Z4t n mo (wv k) m dn q=wyK n mo wv (k+1) q):=by
 have br:∀ x∈m,0<=Q14 n mo (wv k) x.1 x.2 q:=λx hx=>AA (Int.le_of_lt (h.2.1 x hx).2.1);have h1:=Q59 (d:=(((0,0),0):(Int×Int)×Int)) (F:=λx=>Q14 n mo (wv k) x.1 x.2 q) hn aj br;have h2:=Eg h (λp w=>Q14 n mo (wv k) p w q) λp=>by
  unfold Q14 SA;split
  .split<;>split<;>split<;>rfl
  .rfl
 have e:wyK n mo wv (k+1) q=((Xc n mo).map λp=>Q14 n mo (wv k) p (wyK n mo wv k p) q).sum:=rfl;rw[e,<-h2];refine⟨Mq λr hr=>?_,h1.1,h1.2⟩;have:=aj r hr;rw[Qg this];exact br _ (zh this)
def Yh:AL ((Int×(List (Int×Int×Bool))×Int×List Int)×Int):=(.cons (.agg (.cons (.k (.i .i64)) (.cons (.k (.list (.pair (.i .i64) (.pair (.i .i64) .bo)))) (.cons (.k (.i .i64)) (.one (.k (.list (.i .i64)))))))) (.one (.k (.i .i64))))
def Gy (a:(Int×(List (Int×Int×Bool))×Int×List Int)×Int):Prop:=a.1.2.2.1=a.1.1/\QG a.1.1 a.1.2.1=0/\a.1.2.2.2.length<=60/\(∀ r∈a.1.2.2.2,-1<=r/\r<2 ^ a.1.1.toNat)/\0<=a.2/\a.2<=6
def MY (a:(Int×(List (Int×Int×Bool))×Int×List Int)×Int):List SV:=[]
def WX (a:(Int×(List (Int×Int×Bool))×Int×List Int)×Int) (m:List ((Int×Int)×Int)):Prop:=MapW a.1.2.1.length a.2.toNat m (wyK a.1.2.1.length a.2.toNat (λk=>wvB a.1.1 a.1.2.1 a.1.2.2.2 k) a.1.2.2.2.length)
def XS:XSp:=Z2w Sx (.pair (.i .i64) (.i .i64)) (.i .i64) (Z5w Yh Gy MY WX)
abbrev Ye (hk:Int) (cs:List (Int×Int×Bool)) (f:Int) (cl:List Int):=(hk=hk/\cs=cs/\f=f/\cl=cl/\(([]:List SV)=[]))
def J1 (hk:Int) (cs:List (Int×Int×Bool)) (f:Int) (cl:List Int) (mo:Int):Prop :=
 ∃ (e3:Unit) (d30:(List ((Int×Int)×Int))×Int),((mo=mo/\True/\True/\(lI cs)=(lI cs)/\(0:Int)=d30.2/\True)/\((Ye hk cs f cl)/\(([]:List ((Int×Int)×Int))=d30.1)/\True)) /\
 LoopP (λ(d3:(List ((Int×Int)×Int))×Int) (q3:((List ((Int×Int)×Int))×Int)->Prop) =>
  ((decide (d3.2<(lI cs)))=true ->
   (I64 (d3.2+(1:Int)))/\(∃ d4:(List ((Int×Int)×Int))×Int,((mo=mo/\True/\True/\(lI cs)=(lI cs)/\(d3.2+(1:Int))=d4.2/\True)/\((Ye hk cs f cl)/\((Dk (.pair (.i .i64) (.i .i64)) d3.1 (d3.2,(0:Int)) (1:Int))=d4.1)/\True))/\q3 d4)) /\
  ((decide (d3.2<(lI cs)))=false ->
   ∃ (e7:Unit) (d70:(List ((Int×Int)×Int))×Int),((mo=mo/\True/\True/\(lI cl)=(lI cl)/\(0:Int)=d70.2/\True)/\((Ye hk cs f cl)/\(d3.1=d70.1)/\True)) /\
   LoopP (λ(d7:(List ((Int×Int)×Int))×Int) (q7:((List ((Int×Int)×Int))×Int)->Prop) =>
    ((decide (d7.2<(lI cl)))=true ->
     ∃ (aB:Int×Int×(List ((Int×Int)×Int))) (d100:(List ((Int×Int)×Int))×(List Nat)),((mo=mo/\True/\d7.2=aB.1/\True/\(lI cl)=(lI cl)/\d7.2=aB.2.1/\True/\True)/\((Ye hk cs f cl)/\(([]:List ((Int×Int)×Int))=d100.1)/\(d7.1=aB.2.2/\([]:List Nat)=d100.2)/\True)) /\
     LoopP (λ(d10:(List ((Int×Int)×Int))×(List Nat)) (iP:((List ((Int×Int)×Int))×(List Nat))->Prop) =>
      ((∀ r:Nat,r<(List.length aB.2.2)->r∈d10.2) ->
       (false=true ->
        (d10.2≠[])/\(1<=f/\f<=24/\0<=aB.1/\aB.1<cl.length/\0<=((List.getD aB.2.2 (List.getLastD d10.2 0) ((0,0),0)).1.1)/\((List.getD aB.2.2 (List.getLastD d10.2 0) ((0,0),0)).1.1)<cs.length/\∀ c∈cs,Zt f c=true)/\((wvB f cs cl aB.1.toNat ((List.getD aB.2.2 (List.getLastD d10.2 0) ((0,0),0)).1.1))=true ->
         (0<=((List.getD aB.2.2 (List.getLastD d10.2 0) ((0,0),0)).1.1)/\((List.getD aB.2.2 (List.getLastD d10.2 0) ((0,0),0)).1.1)<cs.length/\cs.length<=60/\0<=((List.getD aB.2.2 (List.getLastD d10.2 0) ((0,0),0)).1.2)/\((List.getD aB.2.2 (List.getLastD d10.2 0) ((0,0),0)).1.2)<=6/\0<=mo/\mo<=6/\0<=((List.getD aB.2.2 (List.getLastD d10.2 0) ((0,0),0)).2)/\((List.getD aB.2.2 (List.getLastD d10.2 0) ((0,0),0)).2)<=4000000000000000/\∀ q,0<=WN d10.1 q/\WN d10.1 q<=4000000000000000)/\(∀ lB:List ((Int×Int)×Int),(lB=Z63 cs.length mo (((List.getD aB.2.2 (List.getLastD d10.2 0) ((0,0),0)).1.1),((List.getD aB.2.2 (List.getLastD d10.2 0) ((0,0),0)).1.2)) ((List.getD aB.2.2 (List.getLastD d10.2 0) ((0,0),0)).2) d10.1)->(∃ d13:(List ((Int×Int)×Int))×(List Nat),((mo=mo/\True/\aB.1=aB.1/\True/\(lI cl)=(lI cl)/\aB.2.1=aB.2.1/\True/\True)/\((Ye hk cs f cl)/\(lB=d13.1)/\(aB.2.2=aB.2.2/\d10.2=d13.2)/\True))/\iP d13))) /\
        ((wvB f cs cl aB.1.toNat ((List.getD aB.2.2 (List.getLastD d10.2 0) ((0,0),0)).1.1))=false ->
         (∃ d14:(List ((Int×Int)×Int))×(List Nat),((mo=mo/\True/\aB.1=aB.1/\True/\(lI cl)=(lI cl)/\aB.2.1=aB.2.1/\True/\True)/\((Ye hk cs f cl)/\(d10.1=d14.1)/\(aB.2.2=aB.2.2/\d10.2=d14.2)/\True))/\iP d14))) /\
       (false=false ->
        (I64 (aB.2.1+(1:Int)))/\(∃ d15:(List ((Int×Int)×Int))×Int,((mo=mo/\True/\True/\(lI cl)=(lI cl)/\(aB.2.1+(1:Int))=d15.2/\True)/\((Ye hk cs f cl)/\(d10.1=d15.1)/\True))/\q7 d15))) /\
      (∀ eX:Nat,eX<(List.length aB.2.2)->eX∉d10.2 ->
       (true=true ->
        ((d10.2++[eX])≠[])/\(1<=f/\f<=24/\0<=aB.1/\aB.1<cl.length/\0<=((List.getD aB.2.2 (List.getLastD (d10.2++[eX]) 0) ((0,0),0)).1.1)/\((List.getD aB.2.2 (List.getLastD (d10.2++[eX]) 0) ((0,0),0)).1.1)<cs.length/\∀ c∈cs,Zt f c=true)/\((wvB f cs cl aB.1.toNat ((List.getD aB.2.2 (List.getLastD (d10.2++[eX]) 0) ((0,0),0)).1.1))=true ->
         (0<=((List.getD aB.2.2 (List.getLastD (d10.2++[eX]) 0) ((0,0),0)).1.1)/\((List.getD aB.2.2 (List.getLastD (d10.2++[eX]) 0) ((0,0),0)).1.1)<cs.length/\cs.length<=60/\0<=((List.getD aB.2.2 (List.getLastD (d10.2++[eX]) 0) ((0,0),0)).1.2)/\((List.getD aB.2.2 (List.getLastD (d10.2++[eX]) 0) ((0,0),0)).1.2)<=6/\0<=mo/\mo<=6/\0<=((List.getD aB.2.2 (List.getLastD (d10.2++[eX]) 0) ((0,0),0)).2)/\((List.getD aB.2.2 (List.getLastD (d10.2++[eX]) 0) ((0,0),0)).2)<=4000000000000000/\∀ q,0<=WN d10.1 q/\WN d10.1 q<=4000000000000000)/\(∀ sy:List ((Int×Int)×Int),(sy=Z63 cs.length mo (((List.getD aB.2.2 (List.getLastD (d10.2++[eX]) 0) ((0,0),0)).1.1),((List.getD aB.2.2 (List.getLastD (d10.2++[eX]) 0) ((0,0),0)).1.2)) ((List.getD aB.2.2 (List.getLastD (d10.2++[eX]) 0) ((0,0),0)).2) d10.1)->(∃ d17:(List ((Int×Int)×Int))×(List Nat),((mo=mo/\True/\aB.1=aB.1/\True/\(lI cl)=(lI cl)/\aB.2.1=aB.2.1/\True/\True)/\((Ye hk cs f cl)/\(sy=d17.1)/\(aB.2.2=aB.2.2/\(d10.2++[eX])=d17.2)/\True))/\iP d17))) /\
        ((wvB f cs cl aB.1.toNat ((List.getD aB.2.2 (List.getLastD (d10.2++[eX]) 0) ((0,0),0)).1.1))=false ->
         (∃ d18:(List ((Int×Int)×Int))×(List Nat),((mo=mo/\True/\aB.1=aB.1/\True/\(lI cl)=(lI cl)/\aB.2.1=aB.2.1/\True/\True)/\((Ye hk cs f cl)/\(d10.1=d18.1)/\(aB.2.2=aB.2.2/\(d10.2++[eX])=d18.2)/\True))/\iP d18))) /\
       (true=false ->
        (I64 (aB.2.1+(1:Int)))/\(∃ d19:(List ((Int×Int)×Int))×Int,((mo=mo/\True/\True/\(lI cl)=(lI cl)/\(aB.2.1+(1:Int))=d19.2/\True)/\((Ye hk cs f cl)/\(d10.1=d19.1)/\True))/\q7 d19)))) d100) /\
    ((decide (d7.2<(lI cl)))=false ->
     (MapW cs.length mo.toNat d7.1 (wyK cs.length mo.toNat (λk=>wvB hk cs cl k) cl.length)))) d70)) d30
def YZ:Cx:=⟨[(1000011,(.pair (.pair (.i .i64) (.i .i64)) (.i .i64))),(1000030,(.pair (.pair (.i .i64) (.i .i64)) (.i .i64)))],[(84,X5)],52,[],0,[(85,XW)],[],[],[],false,[],[],[],[]⟩
def Y_ (hk:Int) (cs:List (Int×Int×Bool)) (f:Int) (cl:List Int) (mo:Int):List (Nat×LoopAnn):=[(0,⟨Unit,(List ((Int×Int)×Int))×Int,[1,2,5,16,17],λe x=>[.val (.i .i64) mo,.box 2 0,.map 11,.val (.i .i64) (((List.length cs):Nat):Int),.val (.i .i64) x.2],λe x=>[(2,.slot 2,.cells [.val (.i .i64) hk,.val (.list (.pair (.i .i64) (.pair (.i .i64) .bo))) cs,.val (.i .i64) f,.val (.list (.i .i64)) cl] (some 137)),(11,.slot 5,.map (.pair (.i .i64) (.i .i64)) (.i .i64) x.1)]⟩),
 (2,⟨Unit,(List ((Int×Int)×Int))×Int,[1,2,5,26,27],λe x=>[.val (.i .i64) mo,.box 2 0,.map 11,.val (.i .i64) (((List.length cl):Nat):Int),.val (.i .i64) x.2],λe x=>[(2,.slot 2,.cells [.val (.i .i64) hk,.val (.list (.pair (.i .i64) (.pair (.i .i64) .bo))) cs,.val (.i .i64) f,.val (.list (.i .i64)) cl] (some 137)),(11,.slot 5,.map (.pair (.i .i64) (.i .i64)) (.i .i64) x.1)]⟩),
 (4,⟨Int×Int×(List ((Int×Int)×Int)),(List ((Int×Int)×Int))×(List Nat),[1,2,7,8,26,27,32],λe x=>[.val (.i .i64) mo,.box 2 0,.val (.i .i64) e.1,.map 30,.val (.i .i64) (((List.length cl):Nat):Int),.val (.i .i64) e.2.1,.box 32 0],λe x=>[(2,.slot 2,.cells [.val (.i .i64) hk,.val (.list (.pair (.i .i64) (.pair (.i .i64) .bo))) cs,.val (.i .i64) f,.val (.list (.i .i64)) cl] (some 137)),(30,.slot 8,.map (.pair (.i .i64) (.i .i64)) (.i .i64) x.1),(32,.slot 32,.iter (.pair (.i .i64) (.i .i64)) (.i .i64) e.2.2 x.2)]⟩)]
theorem DA (a:(Int×(List (Int×Int×Bool))×Int×List Int)×Int):gwp YZ (Y_ a.1.1 a.1.2.1 a.1.2.2.1 a.1.2.2.2 a.2) c74 0 (Z5m [.tmp 4] (.pair (.i .i64) (.i .i64)) (.i .i64) (WX a)) (Vq 52 (AL.can Yh a))=J1 a.1.1 a.1.2.1 a.1.2.2.1 a.1.2.2.2 a.2:=by kernel_rfl
abbrev Dw:Prop:=XOk Tryz.prog 74 XS
theorem Du (h:∀ (hk:Int) (cs:List (Int×Int×Bool)) (f:Int) (cl:List Int) (mo:Int),(f=hk/\QG hk cs=0/\cl.length<=60/\(∀ r∈cl,-1<=r/\r<2 ^ hk.toNat)/\0<=mo/\mo<=6)->J1 hk cs f cl mo):XOk Tryz.prog 74 XS :=
 Z2j Z8f mixed M8 rfl (C:=YZ) ⟨(.cons Mk .nil),(XsOk.cons G6 XsOk.nil),ItsOk.nil,YlOk.nil,IysOk.nil,XfOk.nil⟩ (L:=λ(a:(Int×(List (Int×Int×Bool))×Int×List Int)×Int)=>Y_ a.1.1 a.1.2.1 a.1.2.2.1 a.1.2.2.2 a.2) (V:=λ(a:(Int×(List (Int×Int×Bool))×Int×List Int)×Int)=>J1 a.1.1 a.1.2.1 a.1.2.2.1 a.1.2.2.2 a.2) DA λa hp=>h a.1.1 a.1.2.1 a.1.2.2.1 a.1.2.2.2 a.2 hp
theorem Gi:Dw:=Du λhk cs f cl mo h=>by
 obtain⟨h1,h2,h3,h4,h5,h6⟩:=h;subst h1;obtain⟨hf,cg,aK,av⟩:=CA h2;have br:=zt.2 aK;unfold J1;(try delta Ye);(try delta lI gD sT I64 Q2 pj8 pj4);refine⟨(),([],0),(by and_intros<;>first|rfl|trivial),?_⟩;refine LoopP.count2 cs.length (λk m=>MapW cs.length mo.toNat m (Z4e k)) ((MapW.nil _ _).congr λq=>by unfold Z4e;rw[z0 (by omega)]) ?_;intro k m hk hm q hq;dsimp only;refine⟨λg=>?_,λg=>?_⟩
 .have g:k<cs.length:=by have:=z7 g;omega
  refine⟨by simp only[Q7];omega,(B7 m ((k:Int),0) 1,(k:Int)+1),(by and_intros<;>first|rfl|trivial),hq _ g (Z1t hm g)⟩
 .have g:k=cs.length:=by have:=z6 g;omega
  subst g;refine⟨(),(m,0),(by and_intros<;>first|rfl|trivial),?_⟩;refine LoopP.count2 cl.length (λk m=>MapW cs.length mo.toNat m (wyK cs.length mo.toNat (λk=>wvB f cs cl k) k)) (hm.congr λq=>rfl) ?_;clear hm hq;intro k m hk hm q hq;dsimp only;refine⟨λg=>?_,λg=>?_⟩
  .have g:k<cl.length:=by have:=z7 g;omega
   refine⟨((k:Int),(k:Int),m),([],[]),(by and_intros<;>first|rfl|trivial),?_⟩;refine LoopP.rng m.length (λx dn=>MapW cs.length mo.toNat x (Z4t cs.length mo.toNat (wvB f cs cl k) m dn)) ((MapW.nil _ _).congr λq=>rfl) ?_;intro x dn hn aj hx q' cz;dsimp only;refine⟨λhall=>⟨(λc=>by cases c),λ_=>⟨by simp only[Q7];omega,(x,(k:Int)+1),(by and_intros<;>first|rfl|trivial),hq _ g ?_⟩⟩,λr hr iU=>⟨λ_=>?_,(λc=>by cases c)⟩⟩
   .exact hx.congr λq=>(Z3l (wv:=λk=>wvB f cs cl k) hm hn aj q).2.2 hall
   .have iE:List.getLastD (dn++[r]) 0=r:=by simp
    have aW:m[r]∈m:=zh hr;have he:=hm.2.1 _ aW;have lD:=Kw.1 he.2.2;have hW:=Z6g (n:=cs.length) (mo:=mo.toNat) (λk=>wvB f cs cl k) br (by omega) (k:=k) (by omega) m[r].1;have oa:=λq=>Z3l (wv:=λk=>wvB f cs cl k) hm hn aj q;have u4:=λq=>Z6g (n:=cs.length) (mo:=mo.toNat) (λk=>wvB f cs cl k) br (by omega) (k:=k+1) (by omega) q;simp only[iE,Qg hr,z4];refine⟨by simp,⟨hf.1,hf.2,by omega,by omega,lD.1.1,lD.1.2,av⟩,λc=>⟨⟨lD.1.1,lD.1.2,cg,lD.2.1,by omega,h5,h6,by omega,by omega,λq=>?_⟩,λm' nQ=>⟨(m',dn++[r]),(by and_intros<;>first|rfl|trivial),cz r m' hr iU ?_⟩⟩,λc=>⟨(x,dn++[r]),(by and_intros<;>first|rfl|trivial),cz r x hr iU ?_⟩⟩
    .rw[hx.get q];have:=oa q;have:=u4 q;omega
    .subst nQ;have gB:((mo.toNat:Nat):Int)=mo:=by omega
     have:=Z6w hx (λq=>(oa q).1) (p:=m[r].1) (w:=m[r].2) he.2.1 br ⟨lD.1.1,lD.2.1⟩;rw[gB] at this;refine MapW.congr this λq=>?_;rw[Q16,Qg hr];unfold Q14;rw[z2 c,gB]
    .refine hx.congr λq=>?_;rw[Q16,Qg hr];unfold Q14;rw[z0 (by rw[c];decide)];omega
  .have g:k=cl.length:=by have:=z6 g;omega
   subst g;exact hm
def Q0q (hk:Int) (cs:List YQ) (cl:List Int) (fa:Int):Int:=((Xc cs.length fa.toNat).map (wyK cs.length fa.toNat (λk=>wvB hk cs cl k) cl.length)).sum
theorem Z29 (n mo:Nat):(Xc n mo).length=n*(mo+1):=by
 unfold Xc;rw[List.length_flatMap];have:(λ(a:Nat)=>((List.range (mo+1)).map λ(f:Nat)=>(((a:Int),(f:Int)):Int×Int)).length)=λ_=>mo+1:=by funext a;simp
 rw[this];induction n with
 |zero=>simp
 |succ n ih=>rw[List.range_succ,xw,List.sum_append,ih];simp[Nat.succ_mul]
theorem Q8a {α:Type}{f:α->Int}{B:Int}:∀ {l:List α},(∀ x∈l,f x<=B)->(l.map f).sum<=l.length*B
 |[],_=>by simp
 |x::l,h=>by
  have h1:=h x (zz ..);have h2:=Q8a (l:=l) λy hy=>h y (zr _ hy);rw[zx,xB,zJ];have:((l.length+1:Nat):Int)*B=l.length*B+B:=by rw[xY,Int.add_mul];simp
  omega
theorem Z79 {n mo:Nat}(wv:Nat->Int->Bool) (hn:0<n) (mN:n<=60) (gB:mo<=6) {k:Nat}(hk:k<=60):((Xc n mo).map (wyK n mo wv k)).sum<=420*3138428376721:=by
 have h1:=Q8a (l:=Xc n mo) (f:=wyK n mo wv k) (B:=3138428376721) λq hq=>by have hg:=Kw.1 hq;have h1:=Q42 (n:=n) (mo:=mo) wv hn k q hg.2.1;have h2:=J17 (b:=2*k+1) (e:=q.2.toNat) (by omega) (by omega);omega
 rw[Z29] at h1;have:n*(mo+1)<=60*7:=Nat.mul_le_mul mN (by omega);have:((n*(mo+1):Nat):Int)*3138428376721<=420*3138428376721:=Int.mul_le_mul_of_nonneg_right (by omega) (by omega);omega
def DZ:AL ((Int×List (Int×Int×Bool))×List Int×Int):=(.cons (.agg (.cons (.k (.i .i64)) (.one (.k (.list (.pair (.i .i64) (.pair (.i .i64) .bo))))))) (.cons (.k (.list (.i .i64))) (.one (.k (.i .i64)))))
def CM (a:(Int×List (Int×Int×Bool))×List Int×Int):Prop:=QG a.1.1 a.1.2=0/\a.2.1.length<=60/\(∀ r∈a.2.1,-1<=r/\r<2 ^ a.1.1.toNat)/\0<=a.2.2/\a.2.2<=6
def BY (a:(Int×List (Int×Int×Bool))×List Int×Int):List SV:=[.val (.i .i64) (0:Int)]
def GO (a:(Int×List (Int×Int×Bool))×List Int×Int) (m:List ((Int×Int)×Int)):Prop:=MapW a.1.2.length a.2.2.toNat m (wyK a.1.2.length a.2.2.toNat (λk=>wvB a.1.1 a.1.2 a.2.1 k) a.2.1.length)
def Gu:XSp:=Z1d Sx (.pair (.i .i64) (.i .i64)) (.i .i64) (Z5w DZ CM BY GO)
def KJ (hk:Int) (cs:List (Int×Int×Bool)) (cl:List Int) (fa:Int):Prop :=
 ∀ w1:List Value,∀ w2:List Value,(True)/\((!(inI hk 1 24))=true ->
  w2=w2/\w1=w1/\False) /\
 ((!(inI hk 1 24))=false ->
  ((decide ((lI cs) > (60:Int)))=true ->
   w2=w2/\w1=w1/\False) /\
  ((decide ((lI cs) > (60:Int)))=false ->
   (1<=hk/\hk<=24/\cs.length<=1000000)/\((!(!cs.isEmpty&&!(cs.any λc=>!Zt hk c)))=true ->
    w2=w2/\w1=w1/\False) /\
   ((!(!cs.isEmpty&&!(cs.any λc=>!Zt hk c)))=false ->
    w2=w2/\((decide ((lI cl) > (60:Int)))=true ->
     w1=w1/\False) /\
    ((decide ((lI cl) > (60:Int)))=false ->
     (cl.length<=1000000/\∀ x∈cl,(λ(x1:Int)=>1<=hk/\hk<=24) x)/\((cl.any (λ(x1:Int)=>(decide (x1≠-1)&&!inI x1 0 (2 ^ hk.toNat-1))))=true ->
      w1=w1/\False) /\
     ((cl.any (λ(x1:Int)=>(decide (x1≠-1)&&!inI x1 0 (2 ^ hk.toNat-1))))=false ->
      w1=w1/\([fa].length<=1000000)/\((!(!([fa].any λn=>decide (n<(0:Int))||decide ((6:Int)<n))))=true ->
       False) /\
      ((!(!([fa].any λn=>decide (n<(0:Int))||decide ((6:Int)<n))))=false ->
       (hk=hk/\QG hk cs=0/\cl.length<=60/\(∀ r∈cl,-1<=r/\r<2 ^ hk.toNat)/\0<=fa/\fa<=6)/\(∀ m3:List ((Int×Int)×Int),(MapW cs.length fa.toNat m3 (wyK cs.length fa.toNat (λk=>wvB hk cs cl k) cl.length))->(((0:Int)=(0:Int)/\(([]:List SV)=[]))/\(MapW cs.length fa.toNat m3 (wyK cs.length fa.toNat (λk=>wvB hk cs cl k) cl.length))))))))))
def Jx:Cx:=⟨[],[(26,QD),(57,QL),(42,QF),(83,XF)],33,[3000017],0,[(33,KX)],[],[],[],false,[],[],[17],[]⟩
def Jz:List (Nat×LoopAnn):=[]
def Pt:Cx:=⟨[(3,(.i .i64))],[(34,Jo)],28,[3000016],0,[(73,Q5s Jx (λ_=>Jz) c73 [.cell 4 true 4,.tmp 5] 33),(74,XS)],[],[],[],false,[],[],[16],[]⟩
def P1 (hk:Int) (cs:List (Int×Int×Bool)) (cl:List Int) (fa:Int):List (Nat×LoopAnn):=[]
theorem Fj (a:(Int×List (Int×Int×Bool))×List Int×Int):gwp Pt (P1 a.1.1 a.1.2 a.2.1 a.2.2) c52 0 (Z4n [.tmp 6,.tmp 7] (.pair (.i .i64) (.i .i64)) (.i .i64) (BY a) (GO a)) (Vq 28 (AL.can DZ a))=KJ a.1.1 a.1.2 a.2.1 a.2.2:=by kernel_rfl
abbrev EH:Prop:=XOk Tryz.prog 52 Gu
theorem Ff (h:∀ (hk:Int) (cs:List (Int×Int×Bool)) (cl:List Int) (fa:Int),(QG hk cs=0/\cl.length<=60/\(∀ r∈cl,-1<=r/\r<2 ^ hk.toNat)/\0<=fa/\fa<=6)->KJ hk cs cl fa):XOk Tryz.prog 52 Gu :=
 Z20 Z95 mixed M8 rfl (C:=Pt) ⟨(.cons XV .nil),(XsOk.cons (Vc Z9s mixed (C:=Jx) ⟨(.cons Z0 (.cons Zl (.cons Zz (.cons DL .nil)))),(XsOk.cons KH XsOk.nil),ItsOk.nil,YlOk.nil,IysOk.nil,XfOk.nil⟩ (λ_=>Jz)) (XsOk.cons Gi XsOk.nil)),ItsOk.nil,YlOk.nil,IysOk.nil,XfOk.nil⟩ (L:=λ(a:(Int×List (Int×Int×Bool))×List Int×Int)=>P1 a.1.1 a.1.2 a.2.1 a.2.2) (V:=λ(a:(Int×List (Int×Int×Bool))×List Int×Int)=>KJ a.1.1 a.1.2 a.2.1 a.2.2) Fj λa hp=>h a.1.1 a.1.2 a.2.1 a.2.2 hp
theorem E3:EH:=Ff λhk cs cl fa h=>by
 obtain⟨h1,h2,h3,h4,h5⟩:=h;obtain⟨hf,cg,aK,av⟩:=CA h1;unfold KJ;(try delta lI gD sT I64 Q2 pj8 pj4);have c1:(!inI hk 1 24)=false:=by simp only[inI,zH,z1,ze];omega
 have c2:(!(!cs.isEmpty&&!(cs.any λc=>!Zt hk c)))=false:=by
  have e1:cs.isEmpty=false:=by cases cs with|nil=>exact(aK rfl).elim|cons _ _=>rfl
  have e2:(cs.any λc=>!Zt hk c)=false:=xe.2 λc hc=>by rw[av c hc];decide
  rw[e1,e2];rfl
 have c3:(cl.any λx=>(decide (x≠-1)&&!inI x 0 (2 ^ hk.toNat-1)))=false:=xe.2 λx hx=>by
  have:=h3 x hx;by_cases e:x=-1
  .simp[e]
  .have e2:inI x 0 (2 ^ hk.toNat-1)=true:=by
    simp only[inI,z1,ze];omega
   rw[e2];simp
 have c4:(!(!([fa].any λn=>decide (n<(0:Int))||decide ((6:Int)<n))))=false:=by simp only[List.any_cons,List.any_nil,xN,Bool.not_not,Bool.or_eq_false_iff,zG];omega
 have d1:decide ((((List.length cs):Nat):Int) > (60:Int))=false:=xL (by omega);have d2:decide ((((List.length cl):Nat):Int) > (60:Int))=false:=xL (by omega);intro w1 w2;rw[c1,c2,c3,c4,d1,d2];refine⟨trivial,(λc=>by cases c),λ_=>⟨(λc=>by cases c),λ_=>⟨⟨hf.1,hf.2,by omega⟩,(λc=>by cases c),λ_=>⟨rfl,(λc=>by cases c),λ_=>⟨⟨by omega,λ_ _=>hf⟩,(λc=>by cases c),λ_=>⟨rfl,by simp,(λc=>by cases c),λ_=>⟨⟨rfl,h1,h2,h3,h4,h5⟩,λm hm=>⟨(by and_intros<;>first|rfl|trivial|simp),hm⟩⟩⟩⟩⟩⟩⟩⟩
def R9:AL ((Int×List (Int×Int×Bool))×List Int×Int):=(.cons (.agg (.cons (.k (.i .i64)) (.one (.k (.list (.pair (.i .i64) (.pair (.i .i64) .bo))))))) (.cons (.k (.list (.i .i64))) (.one (.k (.i .i64)))))
def FE (d:(Int×List (Int×Int×Bool))×List Int×Int):Prop:=QG d.1.1 d.1.2=0/\d.2.1.length<=60/\(∀ r∈d.2.1,-1<=r/\r<2 ^ d.1.1.toNat)/\0<=d.2.2/\d.2.2<=6
def Pq (d:(Int×List (Int×Int×Bool))×List Int×Int):SV:=.tup [.val (.i .i64) (Q0q d.1.1 d.1.2 d.2.1 d.2.2),.val (.i .i64) (0:Int)]
def Pb (d:(Int×List (Int×Int×Bool))×List Int×Int):List OB:=[]
def B4:CSp:=XD R9 FE Pq Pb
def U0 (hk:Int) (cs:List (Int×Int×Bool)) (cl:List Int) (fa:Int):Prop :=
 (QG hk cs=0/\cl.length<=60/\(∀ r∈cl,-1<=r/\r<2 ^ hk.toNat)/\0<=fa/\fa<=6)/\(∀ m1:List ((Int×Int)×Int),(MapW cs.length fa.toNat m1 (wyK cs.length fa.toNat (λk=>wvB hk cs cl k) cl.length))->∃ (e4:(List ((Int×Int)×Int))) (d40:Int×(List Nat)),(((0:Int)=d40.1/\(0:Int)=(0:Int)/\True/\True)/\((m1=e4/\([]:List Nat)=d40.2)/\True)) /\
 LoopP (λ(d4:Int×(List Nat)) (q4:(Int×(List Nat))->Prop) =>
  ((∀ r:Nat,r<(List.length e4)->r∈d4.2) ->
   (false=true ->
    (d4.2≠[])/\(I64 (d4.1+(List.getD e4 (List.getLastD d4.2 0) ((0,0),0)).2))/\(∃ d6:Int×(List Nat),(((d4.1+(List.getD e4 (List.getLastD d4.2 0) ((0,0),0)).2)=d6.1/\(0:Int)=(0:Int)/\True/\True)/\((e4=e4/\d4.2=d6.2)/\True))/\q4 d6)) /\
   (false=false ->
    ((d4.1=(Q0q hk cs cl fa)/\(0:Int)=(0:Int)/\(([]:List SV)=[]))/\(True)))) /\
  (∀ r5:Nat,r5<(List.length e4)->r5∉d4.2 ->
   (true=true ->
    ((d4.2++[r5])≠[])/\(I64 (d4.1+(List.getD e4 (List.getLastD (d4.2++[r5]) 0) ((0,0),0)).2))/\(∃ d7:Int×(List Nat),(((d4.1+(List.getD e4 (List.getLastD (d4.2++[r5]) 0) ((0,0),0)).2)=d7.1/\(0:Int)=(0:Int)/\True/\True)/\((e4=e4/\(d4.2++[r5])=d7.2)/\True))/\q4 d7)) /\
   (true=false ->
    ((d4.1=(Q0q hk cs cl fa)/\(0:Int)=(0:Int)/\(([]:List SV)=[]))/\(True))))) d40)
def TR:Cx:=⟨[],[],29,[],0,[(52,Gu)],[],[],[],false,[],[],[],[]⟩
def IK (hk:Int) (cs:List (Int×Int×Bool)) (cl:List Int) (fa:Int):List (Nat×LoopAnn):=[(0,⟨(List ((Int×Int)×Int)),Int×(List Nat),[6,7,19],λe x=>[.val (.i .i64) x.1,.val (.i .i64) (0:Int),.box 19 0],λe x=>[(19,.slot 19,.iter (.pair (.i .i64) (.i .i64)) (.i .i64) e x.2)]⟩)]
theorem OK (d:(Int×List (Int×Int×Bool))×List Int×Int):gwp (TR) (IK d.1.1 d.1.2 d.2.1 d.2.2) c25 0 (Wj [.tmp 6,.tmp 7] (Pq d) (Pb d)) (Qp 29 (AL.can R9 d))=U0 d.1.1 d.1.2 d.2.1 d.2.2:=by kernel_rfl
abbrev OU:Prop:=OkC Tryz.prog 25 B4
theorem Oe (h:∀ (hk:Int) (cs:List (Int×Int×Bool)) (cl:List Int) (fa:Int),(QG hk cs=0/\cl.length<=60/\(∀ r∈cl,-1<=r/\r<2 ^ hk.toNat)/\0<=fa/\fa<=6)->U0 hk cs cl fa):OkC Tryz.prog 25 B4 :=
 Qs Z8c mixed (C:=TR) (V:=λ(d:(Int×List (Int×Int×Bool))×List Int×Int)=>U0 d.1.1 d.1.2 d.2.1 d.2.2) ⟨.nil,(XsOk.cons E3 XsOk.nil),ItsOk.nil,YlOk.nil,IysOk.nil,XfOk.nil⟩ (OK) λd hp=>h d.1.1 d.1.2 d.2.1 d.2.2 hp
theorem Ox:OU:=Oe λhk cs cl fa h=>by
 obtain⟨h1,h2,h3,h4,h5⟩:=id h;obtain⟨hf,cg,aK,av⟩:=CA h1;have br:=zt.2 aK;unfold U0;(try delta lI gD sT I64 Q2 pj8 pj4);refine⟨h,λm hm=>⟨m,(0,[]),(by and_intros<;>first|rfl|trivial),?_⟩⟩;refine LoopP.rng m.length (λs dn=>s=(dn.map λr=>(m.getD r ((0,0),0)).2).sum) rfl ?_;intro s dn hn aj hs q hq;dsimp only;have hp:∀ x∈m,0<=(λx:(Int×Int)×Int=>x.2) x:=λx hx=>Int.le_of_lt (hm.2.1 x hx).2.1;have qL:=Eg hm (λ_ w=>w) λ_=>rfl;have hb:=Z79 (n:=cs.length) (mo:=fa.toNat) (λk=>wvB hk cs cl k) br (by omega) (by omega) (k:=cl.length) (by omega);have hV:(m.map λx=>x.2).sum=Q0q hk cs cl fa:=qL;have wm:Q0q hk cs cl fa<=420*3138428376721:=hb;have gC:=λ(dn:List Nat) (hn:dn.Nodup) (aj:∀ r∈dn,r<m.length)=>Q59 (d:=(((0,0),0):(Int×Int)×Int)) (F:=λx=>x.2) hn aj hp;refine⟨λhall=>⟨(λc=>by cases c),λ_=>⟨⟨?_,rfl,rfl⟩,trivial⟩⟩,λr hr iU=>⟨λ_=>?_,(λc=>by cases c)⟩⟩
 .rw[hs,<-hV];exact(gC dn hn aj).2 hall
 .have iE:List.getLastD (dn++[r]) 0=r:=by simp
  have cI:s+(m.getD r ((0,0),0)).2=((dn++[r]).map λr=>(m.getD r ((0,0),0)).2).sum:=by rw[hs,Ow];simp
  simp only[iE];have aW:=λy (hy:y∈dn++[r])=>show y<m.length from (xk.1 hy).elim (aj y) λh=>by rw[zO] at h;omega
  have hle:=(gC (dn++[r]) (F_ hn iU) aW).1;have b8:0<=((dn++[r]).map λr=>(m.getD r ((0,0),0)).2).sum:=Mq λy hy=>by have:=aW y hy;rw[Qg this];exact hp _ (zh this)
  refine⟨by simp,?_,(s+(m.getD r ((0,0),0)).2,dn++[r]),(by and_intros<;>first|rfl|trivial),hq r _ hr iU cI⟩;simp only[Q7];rw[cI];omega
def shP (hd:Int) (rows:List Int) (a b:Int) (x:Int×Int):Bool:=(rows.getD (Int.tmod (x.1+rows.length-a) rows.length).toNat 0).toNat.testBit (Int.tmod (x.2+hd-b) hd).toNat
theorem AQ {n mo:Nat}{wv:Nat->Int->Bool}{k:Nat}{L L':List ((Int×Int)×Int)}(h:(Xc n mo).map (λq=>(q,wyK n mo wv k q))=L)
  (h':(Xc n mo).map (λq=>(q,((Xc n mo).map λp=>Q14 n mo (wv k) p (WN L p) q).sum))=L'):(Xc n mo).map (λq=>(q,wyK n mo wv (k+1) q))=L':=by
 have hL:∀ p∈Xc n mo,WN L p=wyK n mo wv k p:=λp hp=>by
  have hn:(L.map (·.1)).Nodup:=by
   rw[<-h,wF];have:((λx:(Int×Int)×Int=>x.1) ∘ λq=>(q,wyK n mo wv k q))=id:=rfl;rw[this,List.map_id];exact HC n mo
  have hm:(p,wyK n mo wv k p)∈L:=by rw[<-h];exact zC.2 ⟨p,hp,rfl⟩
  exact Q9f hn hm
 rw[<-h'];refine xd λq _=>?_;have:((Xc n mo).map λp=>Q14 n mo (wv k) p (WN L p) q)=(Xc n mo).map λp=>Q14 n mo (wv k) p (wyK n mo wv k p) q:=xd λp hp=>by rw[hL p hp]
 rw[this];rfl
def five:List YQ:=[(0,1,false),(3,8,false),(1,2,false),(2,4,false),(4,15,false)]
def Z3z:List Int:=[8,2,2,-1,1]
theorem Z6r:(Xc 5 2).map (λq=>(q,wyK 5 2 (λk=>wvB 4 five Z3z k) 0 q))=[((0,0),1),((0,1),0),((0,2),0),((1,0),1),((1,1),0),((1,2),0),((2,0),1),((2,1),0),((2,2),0),((3,0),1),((3,1),0),((3,2),0),((4,0),1),((4,1),0),((4,2),0)]:=by kernel_rfl
theorem Z6q:(Xc 5 2).map (λq=>(q,wyK 5 2 (λk=>wvB 4 five Z3z k) 1 q))=[((0,0),0),((0,1),0),((0,2),0),((1,0),0),((1,1),1),((1,2),0),((2,0),1),((2,1),0),((2,2),0),((3,0),0),((3,1),1),((3,2),0),((4,0),0),((4,1),0),((4,2),0)]:=AQ Z6r (by kernel_rfl)
theorem Z6x:(Xc 5 2).map (λq=>(q,wyK 5 2 (λk=>wvB 4 five Z3z k) 2 q))=[((0,0),0),((0,1),0),((0,2),0),((1,0),0),((1,1),0),((1,2),0),((2,0),0),((2,1),1),((2,2),0),((3,0),1),((3,1),0),((3,2),0),((4,0),0),((4,1),1),((4,2),0)]:=AQ Z6q (by kernel_rfl)
theorem Z7b:(Xc 5 2).map (λq=>(q,wyK 5 2 (λk=>wvB 4 five Z3z k) 3 q))=[((0,0),0),((0,1),0),((0,2),0),((1,0),0),((1,1),0),((1,2),0),((2,0),0),((2,1),0),((2,2),1),((3,0),0),((3,1),1),((3,2),0),((4,0),0),((4,1),0),((4,2),1)]:=AQ Z6x (by kernel_rfl)
theorem Z77:(Xc 5 2).map (λq=>(q,wyK 5 2 (λk=>wvB 4 five Z3z k) 4 q))=[((0,0),0),((0,1),0),((0,2),2),((1,0),0),((1,1),0),((1,2),0),((2,0),0),((2,1),0),((2,2),0),((3,0),0),((3,1),0),((3,2),2),((4,0),0),((4,1),1),((4,2),0)]:=AQ Z7b (by kernel_rfl)
theorem Z6n:(Xc 5 2).map (λq=>(q,wyK 5 2 (λk=>wvB 4 five Z3z k) 5 q))=[((0,0),0),((0,1),0),((0,2),0),((1,0),0),((1,1),0),((1,2),2),((2,0),0),((2,1),0),((2,2),0),((3,0),0),((3,1),0),((3,2),0),((4,0),0),((4,1),0),((4,2),0)]:=AQ Z77 (by kernel_rfl)
theorem Q8u:Q0q 4 five Z3z 2=2:=by
 have h:(((Xc 5 2).map (λq=>(q,wyK 5 2 (λk=>wvB 4 five Z3z k) 5 q))).map λx=>x.2).sum=2:=by rw[Z6n];rfl
 rw[wF] at h;exact h
def Mf:AL ((Int×List Int)×Int×Int):=(.cons (.agg (.cons (.k (.i .i64)) (.one (.k (.list (.i .i64)))))) (.cons (.k (.i .i64)) (.one (.k (.i .i64)))))
def Rf (d:(Int×List Int)×Int×Int):Prop:=0<=d.2.1/\0<=d.2.2/\d.1.2≠[]/\d.1.2.length<=1000/\d.2.1<=1000000/\d.2.2<=1000000/\1<=d.1.1/\d.1.1<=24/\∀ x∈d.1.2,0<=x/\x<9223372036854775808
def Nl (d:(Int×List Int)×Int×Int):SV:=.val .bo ((d.1.2.getD (Int.tmod d.2.1 d.1.2.length).toNat 0).toNat.testBit (Int.tmod d.2.2 d.1.1).toNat)
def Nf (d:(Int×List Int)×Int×Int):List OB:=[]
def Va:CSp:=XD Mf Rf Nl Nf
def W7 (hd:Int) (rows:List Int) (i:Int) (j:Int):Prop :=
 ((lI rows)≠0)/\(0<=(Int.tmod i (lI rows)))/\((Int.tmod i (lI rows))<(List.length rows))/\(hd≠0)/\(0<=(Int.tmod j hd))/\(((Qf .and .i64 (Zg .i64 (gD rows (Int.tmod i (lI rows)) 0) (Int.tmod j hd)) (1:Int))==(1:Int))=((rows.getD (Int.tmod i rows.length).toNat 0).toNat.testBit (Int.tmod j hd).toNat)/\(True))
def Mx:Cx:=⟨[],[],26,[],0,[],[],[],[],false,[],[],[],[]⟩
def Sb (hd:Int) (rows:List Int) (i:Int) (j:Int):List (Nat×LoopAnn):=[]
theorem S9 (d:(Int×List Int)×Int×Int):gwp (Mx) (Sb d.1.1 d.1.2 d.2.1 d.2.2) c71 0 (Wj [.tmp 6] (Nl d) (Nf d)) (Qp 26 (AL.can Mf d))=W7 d.1.1 d.1.2 d.2.1 d.2.2:=by kernel_rfl
abbrev S3:Prop:=OkC Tryz.prog 71 Va
theorem Sm (h:∀ (hd:Int) (rows:List Int) (i:Int) (j:Int),(0<=i/\0<=j/\rows≠[]/\rows.length<=1000/\i<=1000000/\j<=1000000/\1<=hd/\hd<=24/\∀ x∈rows,0<=x/\x<9223372036854775808)->W7 hd rows i j):OkC Tryz.prog 71 Va :=
 Qs Z8w mixed (C:=Mx) (V:=λ(d:(Int×List Int)×Int×Int)=>W7 d.1.1 d.1.2 d.2.1 d.2.2) ⟨.nil,XsOk.nil,ItsOk.nil,YlOk.nil,IysOk.nil,XfOk.nil⟩ (S9) λd hp=>h d.1.1 d.1.2 d.2.1 d.2.2 hp
theorem S5:S3:=Sm λhd rows i j h=>by obtain⟨h1,h2,h3,h4,h5,h6,h7,h8,h9⟩:=h;unfold W7;(try delta lI gD sT I64 Q2 pj8 pj4);obtain⟨x,rfl⟩:=z8 h1;obtain⟨y,rfl⟩:=z8 h2;obtain⟨d,rfl⟩:=z8 (show 0<=hd by omega);have hl:0<rows.length:=zt.2 h3;have hm:x % rows.length<rows.length:=x6 _ hl;have fg:y % d<d:=x6 _ (by omega);have hx:=h9 _ (O7 hm);obtain⟨r,er⟩:=z8 hx.1;simp only[Z5s,z4,er];rw[er] at hx;refine⟨by omega,by omega,by omega,by omega,by omega,?_,trivial⟩;exact Z55 (by omega) (by omega)
def RD:AL (Int×Int×((Int×Int->Prop)×(Int×Int->Bool))):=(.cons (.k (.i .i64)) (.cons (.k (.i .i64)) (.one (.fn [(.i .i64),(.i .i64)] .bo))))
def F9 (d:Int×Int×((Int×Int->Prop)×(Int×Int->Bool))):Prop:=0<=d.1/\d.1<=1000/\0<=d.2.1/\d.2.1<=60/\∀ i j,0<=i->i<d.1->0<=j->j<d.2.1->d.2.2.1 (i,j)
def PM (d:Int×Int×((Int×Int->Prop)×(Int×Int->Bool))):SV:=.agg [.val (.i .i64) d.2.1,.lst 0]
def P0 (d:Int×Int×((Int×Int->Prop)×(Int×Int->Bool))):List OB:=[.lst 3 (.i .i64) (IQ d.1.toNat d.2.1.toNat d.2.2.2) false]
def B8:CSp:=XD RD F9 PM P0
def VW (pk:Int) (hk:Int) (p:(Int×Int->Prop)×(Int×Int->Bool)):Prop :=
 (0<=pk)/\(pk<=pk)/\(pk*8<=70368744177664)/\(pk<=70368744177664)/\∃ (e3:Unit) (d30:(List Int)×Int),((hk=hk/\(SV.pf [(.i .i64),(.i .i64)] .bo p.1 p.2=SV.pf [(.i .i64),(.i .i64)] .bo p.1 p.2)/\True/\True/\pk=pk/\(0:Int)=d30.2/\True)/\(((0:Int)=(0:Int)/\True/\(([]:List SV)=[]))/\(hk=hk/\True/\(([]:List SV)=[]))/\((List.replicate (Int.toNat pk) (0:Int))=d30.1/\false=false)/\True)) /\
 LoopP (λ(d3:(List Int)×Int) (q3:((List Int)×Int)->Prop) =>
  ((decide (d3.2<pk))=true ->
   ∃ (e6:Int×Int) (d60:(List Int)×Int),((hk=hk/\(SV.pf [(.i .i64),(.i .i64)] .bo p.1 p.2=SV.pf [(.i .i64),(.i .i64)] .bo p.1 p.2)/\True/\True/\d3.2=e6.1/\pk=pk/\d3.2=e6.2/\hk=hk/\(0:Int)=d60.2/\True)/\(((0:Int)=(0:Int)/\True/\(([]:List SV)=[]))/\(hk=hk/\True/\(([]:List SV)=[]))/\(d3.1=d60.1/\false=false)/\True)) /\
   LoopP (λ(d6:(List Int)×Int) (q6:((List Int)×Int)->Prop) =>
    ((decide (d6.2<hk))=true ->
     (p.1 (e6.1,d6.2))/\((p.2 (e6.1,d6.2))=true ->
      (0<=e6.1)/\(e6.1<(List.length d6.1))/\(0<=d6.2)/\(I64 (Wk .i64 (1:Int) d6.2))/\(0<=e6.1)/\(e6.1<(List.length d6.1))/\(I64 (d6.2+(1:Int)))/\(∃ d7:(List Int)×Int,((hk=hk/\(SV.pf [(.i .i64),(.i .i64)] .bo p.1 p.2=SV.pf [(.i .i64),(.i .i64)] .bo p.1 p.2)/\True/\True/\e6.1=e6.1/\pk=pk/\e6.2=e6.2/\hk=hk/\(d6.2+(1:Int))=d7.2/\True)/\(((0:Int)=(0:Int)/\True/\(([]:List SV)=[]))/\(hk=hk/\True/\(([]:List SV)=[]))/\((sT d6.1 e6.1 (Qf .or .i64 (gD d6.1 e6.1 0) (Wk .i64 (1:Int) d6.2)))=d7.1/\false=false)/\True))/\q6 d7)) /\
     ((p.2 (e6.1,d6.2))=false ->
      (I64 (d6.2+(1:Int)))/\(∃ d8:(List Int)×Int,((hk=hk/\(SV.pf [(.i .i64),(.i .i64)] .bo p.1 p.2=SV.pf [(.i .i64),(.i .i64)] .bo p.1 p.2)/\True/\True/\e6.1=e6.1/\pk=pk/\e6.2=e6.2/\hk=hk/\(d6.2+(1:Int))=d8.2/\True)/\(((0:Int)=(0:Int)/\True/\(([]:List SV)=[]))/\(hk=hk/\True/\(([]:List SV)=[]))/\(d6.1=d8.1/\false=false)/\True))/\q6 d8))) /\
    ((decide (d6.2<hk))=false ->
     (I64 (e6.2+(1:Int)))/\(∃ d9:(List Int)×Int,((hk=hk/\(SV.pf [(.i .i64),(.i .i64)] .bo p.1 p.2=SV.pf [(.i .i64),(.i .i64)] .bo p.1 p.2)/\True/\True/\pk=pk/\(e6.2+(1:Int))=d9.2/\True)/\(((0:Int)=(0:Int)/\True/\(([]:List SV)=[]))/\(hk=hk/\True/\(([]:List SV)=[]))/\(d6.1=d9.1/\false=false)/\True))/\q3 d9))) d60) /\
  ((decide (d3.2<pk))=false ->
   ((hk=hk/\True/\(([]:List SV)=[]))/\((d3.1=(IQ pk.toNat hk.toNat p.2)/\false=false)/\True)))) d30
def RC:Cx:=⟨[(3,(.i .i64))],[],38,[],0,[],[],[],[],false,[],[],[],[]⟩
def Ov (pk:Int) (hk:Int) (p:(Int×Int->Prop)×(Int×Int->Bool)):List (Nat×LoopAnn):=[(0,⟨Unit,(List Int)×Int,[1,2,6,7,14,15],λe x=>[.val (.i .i64) hk,.pf [(.i .i64),(.i .i64)] .bo p.1 p.2,.box 6 0,.box 7 0,.val (.i .i64) pk,.val (.i .i64) x.2],λe x=>[(6,.slot 6,.cells [.val (.i .i64) (0:Int),.nilS] (some 26)),(7,.slot 7,.cells [.val (.i .i64) hk,.lst 12] (some 26)),(12,.cell 7 1,.lst 3 (.i .i64) x.1 false)]⟩),
 (2,⟨Int×Int,(List Int)×Int,[1,2,6,7,8,14,15,18,19],λe x=>[.val (.i .i64) hk,.pf [(.i .i64),(.i .i64)] .bo p.1 p.2,.box 6 0,.box 7 0,.val (.i .i64) e.1,.val (.i .i64) pk,.val (.i .i64) e.2,.val (.i .i64) hk,.val (.i .i64) x.2],λe x=>[(6,.slot 6,.cells [.val (.i .i64) (0:Int),.nilS] (some 26)),(7,.slot 7,.cells [.val (.i .i64) hk,.lst 12] (some 26)),(12,.cell 7 1,.lst 3 (.i .i64) x.1 false)]⟩)]
theorem Q07 (d:Int×Int×((Int×Int->Prop)×(Int×Int->Bool))):gwp (RC) (Ov d.1 d.2.1 d.2.2) c69 0 (Wj [.cell 6 true 2] (PM d) (P0 d)) (Qp 38 (AL.can RD d))=VW d.1 d.2.1 d.2.2:=by kernel_rfl
abbrev OS:Prop:=OkC Tryz.prog 69 B8
theorem IX (h:∀ (pk:Int) (hk:Int) (p:(Int×Int->Prop)×(Int×Int->Bool)),(0<=pk/\pk<=1000/\0<=hk/\hk<=60/\∀ i j,0<=i->i<pk->0<=j->j<hk->p.1 (i,j))->VW pk hk p):OkC Tryz.prog 69 B8 :=
 Qs Z96 mixed (C:=RC) (V:=λ(d:Int×Int×((Int×Int->Prop)×(Int×Int->Bool)))=>VW d.1 d.2.1 d.2.2) ⟨.nil,XsOk.nil,ItsOk.nil,YlOk.nil,IysOk.nil,XfOk.nil⟩ (Q07) λd hp=>h d.1 d.2.1 d.2.2 hp
theorem OF:OS:=IX λpk hk p h=>by
 obtain⟨h1,h2,h3,h4,hp⟩:=h;obtain⟨n,rfl⟩:=z8 h1;obtain⟨m,rfl⟩:=z8 h3;unfold VW;(try delta lI gD sT I64 Q2 pj8 pj4)
 (try simp only[ze,zG])
 simp only[z4];have u5:∀ (j:Nat) (f:Nat->Bool),j<=m->RS j f<2 ^ 60:=λj f hj=>zQ (Z1x j f) (Nat.pow_le_pow_right (by omega) (by omega));refine⟨by omega,by omega,by omega,by omega,(),(List.replicate n 0,0),(by and_intros<;>first|rfl|trivial|simp),?_⟩;refine LoopP.count2 n (λi xs=>xs.length=n/\∀ k,k<n->xs.getD k 0=if k<i then ((RS m (λj=>p.2 ((k:Int),(j:Int))):Nat):Int) else 0) ⟨by simp,λk hk=>by rw[Qg (by simpa using hk)];simp⟩ λi xs hi hJ q hq=>?_;obtain⟨eN,hJ⟩:=hJ;dsimp only;refine⟨λaj=>⟨((i:Int),(i:Int)),(xs,0),(by and_intros<;>first|rfl|trivial|simp),?_⟩,λb8=>?_⟩
 .have aj:i<n:=by omega
  dsimp only;refine LoopP.count2 m (λj ys=>ys.length=n/\∀ k,k<n->ys.getD k 0=if k<i then ((RS m (λj=>p.2 ((k:Int),(j:Int))):Nat):Int) else if k=i then ((RS j (λj=>p.2 ((k:Int),(j:Int))):Nat):Int) else 0) ⟨eN,λk hk=>?_⟩ λj ys hj hI q2 nW=>?_
  .rw[hJ k hk];split
   .rfl
   .split
    .simp[RS,L4]
    .rfl
  obtain⟨nr,hI⟩:=hI;dsimp only;simp only[z4,Q7];refine⟨λlE=>?_,λb8=>?_⟩
  .have lE:j<m:=by omega
   have iF:=Q6x j (λj=>p.2 ((i:Int),(j:Int)));have bF:=u5 j (λj=>p.2 ((i:Int),(j:Int))) (by omega);have sA:=hI i aj;rw[z0 (by omega),z2 rfl] at sA;refine⟨hp _ _ (by omega) (by omega) (by omega) (by omega),λht=>?_,λhf=>?_⟩
   .have u6:(1:Nat) <<< j<2 ^ 60:=by rw[Nat.one_shiftLeft];exact Nat.pow_lt_pow_right (by omega) (by omega)
    have e1:Wk .i64 1 ((j:Nat):Int)=((1 <<< j:Nat):Int):=Z02 (x:=1) (by omega);obtain⟨z,hz⟩:∃ z,z=1 <<< j:=⟨_,rfl⟩;rw[<-hz] at e1 u6 iF;simp only[sA,e1,Z4z (show RS j (λj=>p.2 ((i:Int),(j:Int)))<9223372036854775808 by omega) (show z<9223372036854775808 by omega)];rw[ht,z2 rfl] at iF;simp only[<-iF];clear e1;refine⟨by omega,by omega,by omega,by omega,by omega,by omega,by omega,(_,_),(by and_intros<;>first|rfl|trivial|simp),nW _ lE ⟨by rw[xc];exact nr,λk hk=>?_⟩⟩;rw[z9,xt];by_cases eK:i=k
    .subst eK;rw[z2 rfl,z2 (by omega),z0 (by omega),z2 rfl];rfl
    .rw[z0 eK,<-z9,hI k hk,z0 (Ne.symm eK)];by_cases aC:k<i
     .rw[z2 aC,z2 aC]
     .rw[z0 aC,z0 aC,z0 (Ne.symm eK)]
   .rw[hf,z0 (by simp),Nat.or_zero] at iF;refine⟨by omega,(_,_),(by and_intros<;>first|rfl|trivial|simp),nW _ lE ⟨nr,λk hk=>?_⟩⟩;rw[hI k hk];by_cases eK:k=i
    .subst eK;rw[z0 (by omega),z2 rfl,z0 (by omega),z2 rfl,iF]
    .split
     .rfl
     .simp only[z0 eK]
  .have fq:j=m:=by omega
   subst fq;refine⟨by omega,(_,_),(by and_intros<;>first|rfl|trivial|simp),hq _ aj ⟨nr,λk hk=>?_⟩⟩;rw[hI k hk];by_cases eK:k=i
   .subst eK;rw[z0 (by omega),z2 rfl,z2 (by omega)]
   .by_cases aC:k<i
    .rw[z2 aC,z2 (by omega)]
    .rw[z0 aC,z0 eK,z0 (by omega)]
 .have a7:i=n:=by omega
  subst a7;have:xs=IQ i m p.2:=by refine List.ext_getElem (by rw[Sy];exact eN) λk a b=>?_;have h5:=hJ k (by omega);rw[Qg a,z2 (by omega)] at h5;have h6:=Q5v (hk:=m) (p:=p.2) (show k<i by omega);rw[Qg b] at h6;rw[h5,h6]
  rw[this];exact(by and_intros<;>first|rfl|trivial|simp)
def GJ:AL (Int×Int×(Int×List Int)×Int×Int):=(.cons (.k (.i .i64)) (.cons (.k (.i .i64)) (.cons (.ptr (.cons (.k (.i .i64)) (.one (.k (.list (.i .i64)))))) (.cons (.ptr (.one (.k (.i .i64)))) (.one (.ptr (.one (.k (.i .i64)))))))))
def RT (d:Int×Int×(Int×List Int)×Int×Int):Prop:=0<=d.1/\d.1<=1000/\0<=d.2.1/\d.2.1<=1000/\d.2.2.1.2.length<=1000/\0<=d.2.2.1.1/\d.2.2.1.1<=24/\0<=d.2.2.2.1/\d.2.2.2.1<=d.2.2.1.2.length/\0<=d.2.2.2.2/\d.2.2.2.2<=d.2.2.1.1
def MA (d:Int×Int×(Int×List Int)×Int×Int):SV:=.tup [.val (.i .i64) (d.1+d.2.2.1.2.length-d.2.2.2.1),.val (.i .i64) (d.2.1+d.2.2.1.1-d.2.2.2.2)]
def M7 (d:Int×Int×(Int×List Int)×Int×Int):List OB:=[]
def UR:CSp:=XD GJ RT MA M7
def WJ (i:Int) (j:Int) (hd:Int) (rows:List Int) (a:Int) (b:Int):Prop :=
 (I64 (i+(lI rows)))/\(I64 ((i+(lI rows))-a))/\(I64 (j+hd))/\(I64 ((j+hd)-b))/\((((i+(lI rows))-a)=(i+rows.length-a)/\((j+hd)-b)=(j+hd-b)/\(([]:List SV)=[]))/\(True))
def GH:Cx:=⟨[],[],22,[],0,[],[],[],[],false,[],[],[],[]⟩
def Lw (i:Int) (j:Int) (hd:Int) (rows:List Int) (a:Int) (b:Int):List (Nat×LoopAnn):=[]
theorem SW (d:Int×Int×(Int×List Int)×Int×Int):gwp (GH) (Lw d.1 d.2.1 d.2.2.1.1 d.2.2.1.2 d.2.2.2.1 d.2.2.2.2) c50 0 (Wj [.tmp 7,.tmp 8] (MA d) (M7 d)) (Qp 22 (AL.can GJ d))=WJ d.1 d.2.1 d.2.2.1.1 d.2.2.1.2 d.2.2.2.1 d.2.2.2.2:=by kernel_rfl
abbrev S_:Prop:=OkC Tryz.prog 50 UR
theorem Lp (h:∀ (i:Int) (j:Int) (hd:Int) (rows:List Int) (a:Int) (b:Int),(0<=i/\i<=1000/\0<=j/\j<=1000/\rows.length<=1000/\0<=hd/\hd<=24/\0<=a/\a<=rows.length/\0<=b/\b<=hd)->WJ i j hd rows a b):OkC Tryz.prog 50 UR :=
 Qs J0z mixed (C:=GH) (V:=λ(d:Int×Int×(Int×List Int)×Int×Int)=>WJ d.1 d.2.1 d.2.2.1.1 d.2.2.1.2 d.2.2.2.1 d.2.2.2.2) ⟨.nil,XsOk.nil,ItsOk.nil,YlOk.nil,IysOk.nil,XfOk.nil⟩ (SW) λd hp=>h d.1 d.2.1 d.2.2.1.1 d.2.2.1.2 d.2.2.2.1 d.2.2.2.2 hp
theorem Lu:S_:=Lp λi j hd rows a b h=>by obtain⟨h1,h2,h3,h4,h5,h6,h7,h8,h9,bM,gb⟩:=h;unfold WJ;(try delta lI gD sT I64 Q2 pj8 pj4);simp only[Q7];and_intros<;>first|omega|rfl|trivial
def No:AL (Int×Int×(Int×List Int)×(Int×List Int)×Int×Int):=(.cons (.k (.i .i64)) (.cons (.k (.i .i64)) (.cons (.ptr (.cons (.k (.i .i64)) (.one (.k (.list (.i .i64)))))) (.one (.ptr (.one (.fnx 50 (.cons (.ptr (.cons (.k (.i .i64)) (.one (.k (.list (.i .i64)))))) (.cons (.ptr (.one (.k (.i .i64)))) (.one (.ptr (.one (.k (.i .i64))))))))))))))
def T8 (d:Int×Int×(Int×List Int)×(Int×List Int)×Int×Int):Prop:=0<=d.1/\d.1<=1000/\0<=d.2.1/\d.2.1<=1000/\d.2.2.2.1.2.length<=1000/\0<=d.2.2.2.1.1/\d.2.2.2.1.1<=24/\0<=d.2.2.2.2.1/\d.2.2.2.2.1<=d.2.2.2.1.2.length/\0<=d.2.2.2.2.2/\d.2.2.2.2.2<=d.2.2.2.1.1/\d.2.2.1.1=d.2.2.2.1.1/\d.2.2.1.2=d.2.2.2.1.2/\d.2.2.2.1.2≠[]/\1<=d.2.2.2.1.1/\∀ x∈d.2.2.2.1.2,0<=x/\x<9223372036854775808
def Un (d:Int×Int×(Int×List Int)×(Int×List Int)×Int×Int):SV:=.val .bo (shP d.2.2.2.1.1 d.2.2.2.1.2 d.2.2.2.2.1 d.2.2.2.2.2 (d.1,d.2.1))
def UJ (d:Int×Int×(Int×List Int)×(Int×List Int)×Int×Int):List OB:=[]
def Ki:CSp:=XD No T8 Un UJ
def Xo (i:Int) (j:Int) (he:Int) (bE:List Int) (hd:Int) (rows:List Int) (a:Int) (b:Int):Prop :=
 (0<=i/\i<=1000/\0<=j/\j<=1000/\rows.length<=1000/\0<=hd/\hd<=24/\0<=a/\a<=rows.length/\0<=b/\b<=hd)/\(0<=(i+rows.length-a)/\0<=(j+hd-b)/\bE≠[]/\bE.length<=1000/\(i+rows.length-a)<=1000000/\(j+hd-b)<=1000000/\1<=he/\he<=24/\∀ x∈bE,0<=x/\x<9223372036854775808)/\(((bE.getD (Int.tmod (i+rows.length-a) bE.length).toNat 0).toNat.testBit (Int.tmod (j+hd-b) he).toNat)=(shP hd rows a b (i,j))/\(True))
def NC:Cx:=⟨[],[(50,UR),(71,Va)],16,[],0,[],[],[],[],false,[],[],[],[]⟩
def Ru (i:Int) (j:Int) (he:Int) (bE:List Int) (hd:Int) (rows:List Int) (a:Int) (b:Int):List (Nat×LoopAnn):=[]
theorem To (d:Int×Int×(Int×List Int)×(Int×List Int)×Int×Int):gwp (NC) (Ru d.1 d.2.1 d.2.2.1.1 d.2.2.1.2 d.2.2.2.1.1 d.2.2.2.1.2 d.2.2.2.2.1 d.2.2.2.2.2) c70 0 (Wj [.tmp 6] (Un d) (UJ d)) (Qp 16 (AL.can No d))=Xo d.1 d.2.1 d.2.2.1.1 d.2.2.1.2 d.2.2.2.1.1 d.2.2.2.1.2 d.2.2.2.2.1 d.2.2.2.2.2:=by kernel_rfl
abbrev Ry:Prop:=OkC Tryz.prog 70 Ki
theorem Tr (h:∀ (i:Int) (j:Int) (he:Int) (bE:List Int) (hd:Int) (rows:List Int) (a:Int) (b:Int),(0<=i/\i<=1000/\0<=j/\j<=1000/\rows.length<=1000/\0<=hd/\hd<=24/\0<=a/\a<=rows.length/\0<=b/\b<=hd/\he=hd/\bE=rows/\rows≠[]/\1<=hd/\∀ x∈rows,0<=x/\x<9223372036854775808)->Xo i j he bE hd rows a b):OkC Tryz.prog 70 Ki :=
 Qs J0u mixed (C:=NC) (V:=λ(d:Int×Int×(Int×List Int)×(Int×List Int)×Int×Int)=>Xo d.1 d.2.1 d.2.2.1.1 d.2.2.1.2 d.2.2.2.1.1 d.2.2.2.1.2 d.2.2.2.2.1 d.2.2.2.2.2) ⟨(.cons Lu (.cons S5 .nil)),XsOk.nil,ItsOk.nil,YlOk.nil,IysOk.nil,XfOk.nil⟩ (To) λd hp=>h d.1 d.2.1 d.2.2.1.1 d.2.2.1.2 d.2.2.2.1.1 d.2.2.2.1.2 d.2.2.2.2.1 d.2.2.2.2.2 hp
theorem TX:Ry:=Tr λi j he bE hd rows a b h=>by obtain⟨g1,g2,g3,g4,g5,g6,g7,g8,g9,wq,wu,rfl,rfl,h2,h3,h4⟩:=h;unfold Xo;(try delta lI gD sT I64 Q2 pj8 pj4);and_intros<;>first|omega|assumption|rfl|trivial
def D3:AL ((Int×List Int)×(Int×List Int)×Int×Int):=(.cons (.agg (.cons (.k (.i .i64)) (.one (.k (.list (.i .i64)))))) (.one (.fnx 50 (.cons (.ptr (.cons (.k (.i .i64)) (.one (.k (.list (.i .i64)))))) (.cons (.ptr (.one (.k (.i .i64)))) (.one (.ptr (.one (.k (.i .i64))))))))))
def RZ (d:(Int×List Int)×(Int×List Int)×Int×Int):Prop:=d.1.1=6/\d.1.2=[21,42]/\d.2.1.1=6/\d.2.1.2=[21,42]/\d.2.2.1=0/\d.2.2.2=1
def Mj (d:(Int×List Int)×(Int×List Int)×Int×Int):SV:=.tup [.agg [.val (.i .i64) (6:Int),.lst 0],.val (.i .i64) (0:Int)]
def Mr (d:(Int×List Int)×(Int×List Int)×Int×Int):List OB:=[.lst 3 (.i .i64) ([42,21]:List Int) false]
def Ur:CSp:=XD D3 RZ Mj Mr
def WI (hd:Int) (rows:List Int) (he:Int) (bE:List Int) (a:Int) (b:Int):Prop :=
 (rows.length<=1000000)/\(((Qb hd rows) != (0:Int))=true ->
  ((((0:Int)=(6:Int)/\True/\(([]:List SV)=[]))/\(Qb hd rows)=(0:Int)/\(([]:List SV)=[]))/\((([42,21]:List Int)=[]/\false=true)/\True))) /\
 (((Qb hd rows) != (0:Int))=false ->
  (0<=(lI rows)/\(lI rows)<=1000/\0<=hd/\hd<=60/\∀ i j,0<=i->i<(lI rows)->0<=j->j<hd->(λ(x1:Int×Int)=>0<=x1.1/\x1.1<=1000/\0<=x1.2/\x1.2<=1000/\bE.length<=1000/\0<=he/\he<=24/\0<=a/\a<=bE.length/\0<=b/\b<=he/\hd=he/\rows=bE/\bE≠[]/\1<=he/\∀ x∈bE,0<=x/\x<9223372036854775808) (i,j))/\(((hd=(6:Int)/\True/\(([]:List SV)=[]))/\(0:Int)=(0:Int)/\(([]:List SV)=[]))/\(((IQ (lI rows).toNat hd.toNat (λ(x1:Int×Int)=>(shP he bE a b (x1.1,x1.2))))=([42,21]:List Int)/\false=false)/\True)))
def GL:Cx:=⟨[],[(20,X9),(69,B8),(70,Ki)],20,[],0,[],[],[],[],false,[],[],[],[]⟩
def L8 (hd:Int) (rows:List Int) (he:Int) (bE:List Int) (a:Int) (b:Int):List (Nat×LoopAnn):=[]
theorem Lo (d:(Int×List Int)×(Int×List Int)×Int×Int):gwp (GL) (L8 d.1.1 d.1.2 d.2.1.1 d.2.1.2 d.2.2.1 d.2.2.2) c49 0 (Wj [.cell 4 true 2,.tmp 5] (Mj d) (Mr d)) (Qp 20 (AL.can D3 d))=WI d.1.1 d.1.2 d.2.1.1 d.2.1.2 d.2.2.1 d.2.2.2:=by kernel_rfl
abbrev Lv:Prop:=OkC Tryz.prog 49 Ur
theorem SY (h:∀ (hd:Int) (rows:List Int) (he:Int) (bE:List Int) (a:Int) (b:Int),(hd=6/\rows=[21,42]/\he=6/\bE=[21,42]/\a=0/\b=1)->WI hd rows he bE a b):OkC Tryz.prog 49 Ur :=
 Qs Z9f mixed (C:=GL) (V:=λ(d:(Int×List Int)×(Int×List Int)×Int×Int)=>WI d.1.1 d.1.2 d.2.1.1 d.2.1.2 d.2.2.1 d.2.2.2) ⟨(.cons WA (.cons OF (.cons TX .nil))),XsOk.nil,ItsOk.nil,YlOk.nil,IysOk.nil,XfOk.nil⟩ (Lo) λd hp=>h d.1.1 d.1.2 d.2.1.1 d.2.1.2 d.2.2.1 d.2.2.2 hp
theorem L3:Lv:=SY λhd rows he bE a b h=>by
 obtain⟨rfl,rfl,rfl,rfl,rfl,rfl⟩:=h;unfold WI;(try delta lI gD sT I64 Q2 pj8 pj4);have e:(Qb 6 [21,42] != 0)=false:=by decide +kernel
 have e1:(IQ (([21,42]:List Int).length:Int).toNat (6:Int).toNat λx=>shP 6 [21,42] 0 1 (x.1,x.2))=[42,21]:=by decide +kernel
 have e2:∀ x∈([21,42]:List Int),0<=x/\x<9223372036854775808:=by decide
 rw[e];refine⟨by decide,λc=>(by cases c),λ_=>?_⟩;refine⟨⟨by decide,by decide,by decide,by decide,λi j h1 h2 h3 h4=>?_⟩,?_⟩
 .simp only[zJ,List.length_nil] at h2 |-;and_intros<;>first|omega|exact e2|decide
 .simp only[e1];and_intros<;>first|rfl|trivial|decide
def Py:AL ((Int×List Int)×Int×Int):=(.cons (.agg (.cons (.k (.i .i64)) (.one (.k (.list (.i .i64)))))) (.cons (.k (.i .i64)) (.one (.k (.i .i64)))))
def Ai (d:(Int×List Int)×Int×Int):Prop:=d.1.1=6/\d.1.2=[21,42]/\d.2.1=0/\d.2.2=1
def Bx (d:(Int×List Int)×Int×Int):SV:=.tup [.agg [.val (.i .i64) (6:Int),.lst 0],.val (.i .i64) (0:Int)]
def BD (d:(Int×List Int)×Int×Int):List OB:=[.lst 3 (.i .i64) ([42,21]:List Int) false]
def Gt:CSp:=XD Py Ai Bx BD
def KF (hd:Int) (rows:List Int) (a:Int) (b:Int):Prop :=
 (rows.length<=1000000)/\(((Qb hd rows) != (0:Int))=true ->
  ((((0:Int)=(6:Int)/\True/\(([]:List SV)=[]))/\(Qb hd rows)=(0:Int)/\(([]:List SV)=[]))/\((([42,21]:List Int)=[]/\false=true)/\True))) /\
 (((Qb hd rows) != (0:Int))=false ->
  (I64 ((lI rows)-(1:Int)))/\([a].length<=1000000)/\((!(!([a].any λn=>decide (n<(0:Int))||decide (((lI rows)-(1:Int))<n))))=true ->
   ((!(!([a].any λn=>decide (n<(0:Int))||decide (((lI rows)-(1:Int))<n))))=true ->
    ((((0:Int)=(6:Int)/\True/\(([]:List SV)=[]))/\(3:Int)=(0:Int)/\(([]:List SV)=[]))/\((([42,21]:List Int)=[]/\false=true)/\True))) /\
   ((!(!([a].any λn=>decide (n<(0:Int))||decide (((lI rows)-(1:Int))<n))))=false ->
    (hd=6/\rows=[21,42]/\hd=6/\rows=[21,42]/\a=0/\b=1)/\((((6:Int)=(6:Int)/\True/\(([]:List SV)=[]))/\(0:Int)=(0:Int)/\(([]:List SV)=[]))/\((([42,21]:List Int)=([42,21]:List Int)/\false=false)/\True)))) /\
  ((!(!([a].any λn=>decide (n<(0:Int))||decide (((lI rows)-(1:Int))<n))))=false ->
   (I64 (hd-(1:Int)))/\([b].length<=1000000)/\((!(!([b].any λn=>decide (n<(0:Int))||decide ((hd-(1:Int))<n))))=true ->
    ((((0:Int)=(6:Int)/\True/\(([]:List SV)=[]))/\(3:Int)=(0:Int)/\(([]:List SV)=[]))/\((([42,21]:List Int)=[]/\false=true)/\True))) /\
   ((!(!([b].any λn=>decide (n<(0:Int))||decide ((hd-(1:Int))<n))))=false ->
    (hd=6/\rows=[21,42]/\hd=6/\rows=[21,42]/\a=0/\b=1)/\((((6:Int)=(6:Int)/\True/\(([]:List SV)=[]))/\(0:Int)=(0:Int)/\(([]:List SV)=[]))/\((([42,21]:List Int)=([42,21]:List Int)/\false=false)/\True)))))
def PD:Cx:=⟨[(3,(.i .i64))],[(20,X9),(21,Xi),(49,Ur)],38,[],0,[],[],[],[],false,[],[],[],[]⟩
def Fz (hd:Int) (rows:List Int) (a:Int) (b:Int):List (Nat×LoopAnn):=[]
theorem FP (d:(Int×List Int)×Int×Int):gwp (PD) (Fz d.1.1 d.1.2 d.2.1 d.2.2) c23 0 (Wj [.cell 6 true 2,.tmp 7] (Bx d) (BD d)) (Qp 38 (AL.can Py d))=KF d.1.1 d.1.2 d.2.1 d.2.2:=by kernel_rfl
abbrev FD:Prop:=OkC Tryz.prog 23 Gt
theorem FW (h:∀ (hd:Int) (rows:List Int) (a:Int) (b:Int),(hd=6/\rows=[21,42]/\a=0/\b=1)->KF hd rows a b):OkC Tryz.prog 23 Gt :=
 Qs J0r mixed (C:=PD) (V:=λ(d:(Int×List Int)×Int×Int)=>KF d.1.1 d.1.2 d.2.1 d.2.2) ⟨(.cons WA (.cons Yk (.cons L3 .nil))),XsOk.nil,ItsOk.nil,YlOk.nil,IysOk.nil,XfOk.nil⟩ (FP) λd hp=>h d.1.1 d.1.2 d.2.1 d.2.2 hp
theorem EY:FD:=FW λhd rows a b h=>by
 obtain⟨rfl,rfl,rfl,rfl⟩:=h;unfold KF;(try delta lI gD sT I64 Q2 pj8 pj4);have e:(Qb 6 [21,42] != 0)=false:=by decide +kernel
 rw[e];refine⟨by decide,λc=>(by cases c),λ_=>?_⟩;refine⟨by rw[Q7];decide,by decide,λc=>(by revert c;decide),λ_=>?_⟩;refine⟨by rw[Q7];decide,by decide,λc=>(by revert c;decide),λ_=>?_⟩;and_intros<;>first|rfl|trivial
def Pe:AL (List Int×Int):=(.cons (.k (.list (.i .u8))) (.one (.k (.i .i64))))
def En (d:List Int×Int):Prop:=d.1.length<=9223372036854775807/\0<=d.2/\∀ x∈d.1,0<=x/\x<=255
def Ha (d:List Int×Int):SV:=.val (.i .i64) (Za d.1 d.2)
def BA (d:List Int×Int):List OB:=[]
def VQ:CSp:=XD Pe En Ha BA
def KM (l:List Int) (i:Int):Prop :=
 (((lI l)==(0:Int))=true ->
  ((0:Int)=(Za l i)/\(True))) /\
 (((lI l)==(0:Int))=false ->
  ((lI l)≠0)/\(0<=(Int.tmod i (lI l)))/\((Int.tmod i (lI l))<(List.length l))/\(I64 (gD l (Int.tmod i (lI l)) 0))/\((gD l (Int.tmod i (lI l)) 0)=(Za l i)/\(True)))
def Ph:Cx:=⟨[],[],16,[],0,[],[],[],[],false,[],[],[],[]⟩
def EC (l:List Int) (i:Int):List (Nat×LoopAnn):=[]
theorem Fu (d:List Int×Int):gwp (Ph) (EC d.1 d.2) c5 0 (Wj [.tmp 4] (Ha d) (BA d)) (Qp 16 (AL.can Pe d))=KM d.1 d.2:=by kernel_rfl
abbrev FG:Prop:=OkC Tryz.prog 5 VQ
theorem EM (h:∀ (l:List Int) (i:Int),(l.length<=9223372036854775807/\0<=i/\∀ x∈l,0<=x/\x<=255)->KM l i):OkC Tryz.prog 5 VQ :=
 Qs J1w mixed (C:=Ph) (V:=λ(d:List Int×Int)=>KM d.1 d.2) ⟨.nil,XsOk.nil,ItsOk.nil,YlOk.nil,IysOk.nil,XfOk.nil⟩ (Fu) λd hp=>h d.1 d.2 hp
theorem P9:FG:=EM λl i h=>by
 obtain⟨h1,h2,h3⟩:=h;unfold KM;(try delta lI gD sT I64 Q2 pj8 pj4);refine⟨λhx=>?_,λhx=>?_⟩
 .have:l.length=0:=by have:=eq_of_beq hx;omega
  unfold Za;rw[z2 this];exact(by and_intros<;>first|rfl|trivial|simp)
 .have h0:l.length≠0:=by have:=ne_of_beq_false hx;omega
  have e:=Int.tmod_eq_emod_of_nonneg (b:=(l.length:Int)) h2;have g1:=Int.emod_nonneg i (show (l.length:Int)≠0 by omega);have g2:=Int.emod_lt_of_pos i (show (0:Int)<l.length by omega);have g3:(Int.tmod i l.length).toNat<l.length:=by omega
  have g4:=h3 _ (by rw[Qg g3];exact zh g3:l.getD (Int.tmod i l.length).toNat 0∈l);refine⟨by omega,by omega,by omega,by rw[Q7];omega,?_⟩;unfold Za;rw[z0 h0];exact(by and_intros<;>first|rfl|trivial|simp)
def Px:AL (List Int):=(.one (.k (.list (.i .i64))))
def A6 (d:List Int):Prop:=d.length<=1000
def Bb (d:List Int):SV:=.lst 0
def H0 (d:List Int):List OB:=[.lst 3 (.i .i64) d false]
def Gn:CSp:=XD Px A6 Bb H0
def KG (l:List Int):Prop :=
 (((List.length ([]:List Int))+(List.length l))*8<=70368744177664)/\(True/\(((([]:List Int)++l)=l/\((List.isEmpty l)&&false)=false)/\True))
def Pm:Cx:=⟨[(3,(.i .i64))],[],6,[],0,[],[],[],[],false,[],[],[],[]⟩
def EW (l:List Int):List (Nat×LoopAnn):=[]
theorem EA (d:List Int):gwp (Pm) (EW d) c17 0 (Wj [.tmp 2] (Bb d) (H0 d)) (Qp 6 (AL.can Px d))=KG d:=by kernel_rfl
abbrev Fc:Prop:=OkC Tryz.prog 17 Gn
theorem Fy (h:∀ (l:List Int),(l.length<=1000)->KG l):OkC Tryz.prog 17 Gn :=
 Qs Z89 mixed (C:=Pm) (V:=λ(d:List Int)=>KG d) ⟨.nil,XsOk.nil,ItsOk.nil,YlOk.nil,IysOk.nil,XfOk.nil⟩ (EA) λd hp=>h d hp
theorem FH:Fc:=Fy λl h=>by
 (unfold KG;(try delta lI gD sT I64 Q2 pj8 pj4);simp);omega
def Pn:AL (List Int×List Int):=(.cons (.k (.list (.i .i64))) (.one (.k (.list (.i .i64)))))
def CB (d:List Int×List Int):Prop:=d.1.length<=1000000
def Br (d:List Int×List Int):SV:=.val .bo (d.1==d.2)
def B6 (d:List Int×List Int):List OB:=[]
def YE:CSp:=XD Pn CB Br B6
def Kx (a:List Int) (b:List Int):Prop :=
 (((lI a) != (lI b))=true ->
  (false=(a==b)/\(True))) /\
 (((lI a) != (lI b))=false ->
  ∃ (e2:Unit) (d20:Int),((a=a/\b=b/\(0:Int)=d20/\True)/\(True)) /\
  LoopP (λ(d2:Int) (q2:(Int)->Prop) =>
   ((decide (d2<(lI a)))=true ->
    (0<=d2)/\(d2<(List.length a))/\(0<=d2)/\(d2<(List.length b))/\(((gD a d2 0) != (gD b d2 0))=true ->
     (false=(a==b)/\(True))) /\
    (((gD a d2 0) != (gD b d2 0))=false ->
     (I64 (d2+(1:Int)))/\(∃ d3:Int,((a=a/\b=b/\(d2+(1:Int))=d3/\True)/\(True))/\q2 d3))) /\
   ((decide (d2<(lI a)))=false ->
    (true=(a==b)/\(True)))) d20)
def P7:Cx:=⟨[],[],26,[],0,[],[],[],[],false,[],[],[],[]⟩
def F6 (a:List Int) (b:List Int):List (Nat×LoopAnn):=[(0,⟨Unit,Int,[0,1,5],λe x=>[.val (.list (.i .i64)) a,.val (.list (.i .i64)) b,.val (.i .i64) x],λe x=>[]⟩)]
theorem FZ (d:List Int×List Int):gwp (P7) (F6 d.1 d.2) c19 0 (Wj [.tmp 4] (Br d) (B6 d)) (Qp 26 (AL.can Pn d))=Kx d.1 d.2:=by kernel_rfl
abbrev Fi:Prop:=OkC Tryz.prog 19 YE
theorem EG (h:∀ (a:List Int) (b:List Int),(a.length<=1000000)->Kx a b):OkC Tryz.prog 19 YE :=
 Qs Z9t mixed (C:=P7) (V:=λ(d:List Int×List Int)=>Kx d.1 d.2) ⟨.nil,XsOk.nil,ItsOk.nil,YlOk.nil,IysOk.nil,XfOk.nil⟩ (FZ) λd hp=>h d.1 d.2 hp
theorem NG:Fi:=EG λl m oR=>by
 unfold Kx;(try delta lI gD sT I64 Q2 pj8 pj4);simp only[true_and,and_true,eq_self_iff_true,exists_eq_left',exists_const,ze,zG,zD,bne_iff_ne,ne_eq,zW,bne_eq_false_iff_eq,Bool.not_eq_true',zH,z_,xH,z4,Int.ofNat_lt,gt_iff_lt,ge_iff_le];refine⟨λh=>?_,λh=>?_⟩
 .symm;rw[zW];rintro rfl;exact h rfl
 have h:l.length=m.length:=by omega
 refine LoopP.count l.length (λk=>l.take k=m.take k) rfl λk bn hJ q hq=>?_;simp only[true_and,and_true,eq_self_iff_true,exists_eq_left',exists_const,ze,zG,zD,bne_iff_ne,ne_eq,zW,bne_eq_false_iff_eq,Bool.not_eq_true',zH,z_,xH,z4,Int.ofNat_lt,gt_iff_lt,ge_iff_le,Q7];refine⟨λaj=>?_,λb8=>?_⟩
 .rw[Qg aj,Qg (by omega)];refine⟨by omega,aj,by omega,by omega,λhx=>?_,λhx=>⟨by omega,hq aj ?_⟩⟩
  .symm;rw[zW];rintro rfl;exact hx rfl
  .rw[XJ aj,XJ (by omega),hJ,hx]
 .rw[x9 (by omega),x9 (by omega)] at hJ;simp[hJ]
def H_:AL (Int):=(.one (.k (.i .i64)))
def Ab (d:Int):Prop:=0<=d/\d<=10000
def Hh (d:Int):SV:=.lst 0
def DX (d:Int):List OB:=[.lst 3 (.i .i64) (List.replicate d.toNat (1:Int)) false]
def GA:CSp:=XD H_ Ab Hh DX
def Kt (n:Int):Prop :=
 ∃ (e2:Unit) (d20:(List Int)×Int),((n=n/\True/\(0:Int)=d20.2/\True)/\((([]:List Int)=d20.1/\false=false)/\True)) /\
 LoopP (λ(d2:(List Int)×Int) (q2:((List Int)×Int)->Prop) =>
  ((decide (d2.2<n))=true ->
   (((List.length d2.1)+(List.length [(1:Int)]))*8<=70368744177664)/\(I64 (d2.2+(1:Int)))/\(∃ d3:(List Int)×Int,((n=n/\True/\(d2.2+(1:Int))=d3.2/\True)/\(((d2.1++[(1:Int)])=d3.1/\false=false)/\True))/\q2 d3)) /\
  ((decide (d2.2<n))=false ->
   (True/\((d2.1=(List.replicate n.toNat (1:Int))/\false=false)/\True)))) d20
def Pu:Cx:=⟨[(3,(.i .i64))],[],15,[],0,[],[],[],[],false,[],[],[],[]⟩
def FO (n:Int):List (Nat×LoopAnn):=[(0,⟨Unit,(List Int)×Int,[0,3,4],λe x=>[.val (.i .i64) n,.lst 5,.val (.i .i64) x.2],λe x=>[(5,.slot 3,.lst 3 (.i .i64) x.1 false)]⟩)]
theorem Ft (d:Int):gwp (Pu) (FO d) c15 0 (Wj [.tmp 2] (Hh d) (DX d)) (Qp 15 (AL.can H_ d))=Kt d:=by kernel_rfl
abbrev Fa:Prop:=OkC Tryz.prog 15 GA
theorem ED (h:∀ (n:Int),(0<=n/\n<=10000)->Kt n):OkC Tryz.prog 15 GA :=
 Qs Z8b mixed (C:=Pu) (V:=λ(d:Int)=>Kt d) ⟨.nil,XsOk.nil,ItsOk.nil,YlOk.nil,IysOk.nil,XfOk.nil⟩ (Ft) λd hp=>h d hp
theorem Fg:Fa:=ED λn h=>by
 unfold Kt;(try delta lI gD sT I64 Q2 pj8 pj4);obtain⟨m,rfl⟩:=z8 h.1;have hm:m<=10000:=by omega
 refine⟨(),([],0),(by and_intros<;>first|rfl|trivial|simp),?_⟩;refine LoopP.count2 m (λk xs=>xs=List.replicate k (1:Int)) rfl λk xs hk hJ q hq=>?_;subst hJ;dsimp only;refine⟨λc=>?_,λc=>?_⟩
 .have aj:k<m:=by simpa using c
  refine⟨by simp;omega,by rw[Q7];omega,(List.replicate (k+1) (1:Int),(k:Int)+1),?_,hq _ aj rfl⟩;and_intros<;>first|rfl|trivial|simp[List.replicate_succ']
 .have aC:k=m:=by simp at c;omega
  subst aC;rw[z4];and_intros<;>first|rfl|trivial|simp
def PK:AL (Int×List Int):=(.one (.agg (.cons (.k (.i .i64)) (.one (.k (.list (.i .i64)))))))
def CG (d:Int×List Int):Prop:=d.2.length<=1000
def DV (d:Int×List Int):SV:=.agg [.val (.i .i64) d.1,.lst 0]
def BK (d:Int×List Int):List OB:=[.lst 3 (.i .i64) d.2 false]
def VI:CSp:=XD PK CG DV BK
def Ky (hd:Int) (rows:List Int):Prop :=
 (((List.length ([]:List Int))+(List.length rows))*8<=70368744177664)/\((hd=hd/\True/\(([]:List SV)=[]))/\(((([]:List Int)++rows)=rows/\((List.isEmpty rows)&&false)=false)/\True))
def PH:Cx:=⟨[(3,(.i .i64))],[],9,[],0,[],[],[],[],false,[],[],[],[]⟩
def F4 (hd:Int) (rows:List Int):List (Nat×LoopAnn):=[]
theorem Fe (d:Int×List Int):gwp (PH) (F4 d.1 d.2) c7 0 (Wj [.cell 2 true 2] (DV d) (BK d)) (Qp 9 (AL.can PK d))=Ky d.1 d.2:=by kernel_rfl
abbrev ES:Prop:=OkC Tryz.prog 7 VI
theorem EN (h:∀ (hd:Int) (rows:List Int),(rows.length<=1000)->Ky hd rows):OkC Tryz.prog 7 VI :=
 Qs J1t mixed (C:=PH) (V:=λ(d:Int×List Int)=>Ky d.1 d.2) ⟨.nil,XsOk.nil,ItsOk.nil,YlOk.nil,IysOk.nil,XfOk.nil⟩ (Fe) λd hp=>h d.1 d.2 hp
theorem Pk:ES:=EN λhd rows h=>by
 (unfold Ky;(try delta lI gD sT I64 Q2 pj8 pj4);simp);omega
def PE:AL (Int×List (Int×Int×Bool)):=(.one (.agg (.cons (.k (.i .i64)) (.one (.k (.list (.pair (.i .i64) (.pair (.i .i64) .bo))))))))
def Cn (d:Int×List (Int×Int×Bool)):Prop:=d.2.length<=1000
def BX (d:Int×List (Int×Int×Bool)):SV:=.agg [.val (.i .i64) d.1,.lst 0]
def H8 (d:Int×List (Int×Int×Bool)):List OB:=[.lst 69 (.pair (.i .i64) (.pair (.i .i64) .bo)) d.2 false]
def Yi:CSp:=XD PE Cn BX H8
def Ks (hk:Int) (cs:List (Int×Int×Bool)):Prop :=
 (((List.length ([]:List (Int×Int×Bool)))+(List.length cs))*24<=70368744177664)/\((hk=hk/\True/\(([]:List SV)=[]))/\(((([]:List (Int×Int×Bool))++cs)=cs/\((List.isEmpty cs)&&false)=false)/\True))
def Pd:Cx:=⟨[(69,(.pair (.i .i64) (.pair (.i .i64) .bo)))],[],9,[],0,[],[],[],[],false,[],[],[],[]⟩
def Ez (hk:Int) (cs:List (Int×Int×Bool)):List (Nat×LoopAnn):=[]
theorem FJ (d:Int×List (Int×Int×Bool)):gwp (Pd) (Ez d.1 d.2) c14 0 (Wj [.cell 2 true 2] (BX d) (H8 d)) (Qp 9 (AL.can PE d))=Ks d.1 d.2:=by kernel_rfl
abbrev FQ:Prop:=OkC Tryz.prog 14 Yi
theorem FR (h:∀ (hk:Int) (cs:List (Int×Int×Bool)),(cs.length<=1000)->Ks hk cs):OkC Tryz.prog 14 Yi :=
 Qs J01 mixed (C:=Pd) (V:=λ(d:Int×List (Int×Int×Bool))=>Ks d.1 d.2) ⟨.nil,XsOk.nil,ItsOk.nil,YlOk.nil,IysOk.nil,XfOk.nil⟩ (FJ) λd hp=>h d.1 d.2 hp
theorem NI:FQ:=FR λhk cs h=>by
 (unfold Ks;(try delta lI gD sT I64 Q2 pj8 pj4);simp);omega
def pdH (h8:Int):Int:=2+Int.tmod h8 7
def pdR (hk:Int) (rs:List Int):List Int:=if rs=[] then [1] else (rs.take 12).map λr=>r % 2 ^ hk.toNat
theorem Q2f {h8:Int}(h:0<=h8):2<=pdH h8/\pdH h8<=8:=by have t1:=Int.tmod_nonneg (7:Int) h;have t2:=Int.tmod_lt_of_pos h8 (show (0:Int)<7 by decide);unfold pdH;omega
theorem Z10 {hk:Int}{rs:List Int}:(pdR hk rs).length=if rs=[] then 1 else min 12 rs.length:=by unfold pdR;split<;>simp
theorem Z5p {hk:Int}{rs:List Int}{i:Nat}(h:i<rs.length) (hc:i<12):(pdR hk rs)[i]?=some (rs.getD i 0 % 2 ^ hk.toNat):=by
 have aK:rs≠[]:=by rintro rfl;simp at h
 unfold pdR;rw[z0 aK];simp[xi,hc,h]
theorem Z3j {hk:Int}{rs:List Int}(h:1<=hk/\hk<=24):pdR hk rs≠[]/\(pdR hk rs).length<=12/\∀ x∈pdR hk rs,0<=x/\x<2 ^ hk.toNat:=by
 have hp:=Mb h.1 h.2;refine⟨?_,by rw[Z10];split<;>omega,λx hx=>?_⟩
 .unfold pdR;split
  .simp
  .rename_i aK;simpa using aK
 .unfold pdR at hx;split at hx
  .rw[zO.1 hx];omega
  .simp only[zC] at hx;obtain⟨y,_,rfl⟩:=hx;exact⟨Int.emod_nonneg _ (by omega),Int.emod_lt_of_pos _ (by omega)⟩
def Z65 (by_:List Int) (i n:Nat):Nat:=(Int.tmod (Za by_ i) n).toNat
def J1e (by_:List Int) (i:Nat):Bool:=Int.tmod (Za by_ ((i:Int)+1)) 3==0
def Q4o (by_:List Int) (l:List YQ) (i:Nat):List YQ :=
 let s:=(l.set (Z65 by_ i l.length) (l.getD i Ya)).set i (l.getD (Z65 by_ i l.length) Ya)
 s.set i ((s.getD i Ya).1,((s.getD i Ya).2.1,J1e by_ i))
def IU (by_:List Int) (l:List YQ):Nat->List YQ
 |0=>l
 |m+1=>Q4o by_ (IU by_ l m) m
def GF (by_:List Int) (l:List YQ):List YQ:=IU by_ l l.length
theorem OV (by_:List Int) (l:List YQ):∀ m,(IU by_ l m).length=l.length
 |0=>rfl
 |m+1=>by unfold IU Q4o;simp only[xc];exact OV by_ l m
def G_:AL (Int×List Int):=(.cons (.k (.i .u8)) (.one (.k (.list (.i .u16)))))
def RL (d:Int×List Int):Prop:=0<=d.1/\d.1<=255/\d.2.length<=9223372036854775807/\∀ x∈d.2,0<=x/\x<=65535
def MO (d:Int×List Int):SV:=.agg [.val (.i .i64) (pdH d.1),.lst 0]
def ML (d:Int×List Int):List OB:=[.lst 3 (.i .i64) (pdR (pdH d.1) d.2) false]
def UG:CSp:=XD G_ RL MO ML
abbrev Yy (h8:Int):=((2:Int)+(Int.tmod h8 (7:Int)))
abbrev LU :=((0:Int)=(0:Int)/\True/\(([]:List SV)=[]))
abbrev LX (h8:Int):=((Yy h8)=(Yy h8)/\True/\(([]:List SV)=[]))
def WK (h8:Int) (rs:List Int):Prop :=
 (I64 h8)/\((7:Int)≠0)/\(I64 (Yy h8))/\∃ (e4:Unit) (d40:(List Int)×Int),((rs=rs/\True/\True/\(0:Int)=d40.2/\True)/\(LU/\(LX h8)/\(d40.1=[]/\(List.isEmpty d40.1)=true)/\True)) /\
 LoopP (λ(d4:(List Int)×Int) (q4:((List Int)×Int)->Prop) =>
  (((d4.2==(0:Int))||((decide (d4.2<(lI rs)))&&(decide (d4.2<(12:Int)))))=true ->
   ((decide (d4.2<(lI rs)))=true ->
    (0<=d4.2)/\(d4.2<(List.length rs))/\(I64 (gD rs d4.2 0))/\(InK .u64 (Yy h8))/\(0<=(Yy h8))/\(I64 (Wk .i64 (1:Int) (Yy h8)))/\((Wk .i64 (1:Int) (Yy h8))≠0)/\(((List.length d4.1)+(List.length [(Int.tmod (gD rs d4.2 0) (Wk .i64 (1:Int) (Yy h8)))]))*8<=70368744177664)/\(I64 (d4.2+(1:Int)))/\(∃ d5:(List Int)×Int,((rs=rs/\True/\True/\(d4.2+(1:Int))=d5.2/\True)/\(LU/\(LX h8)/\((d4.1++[(Int.tmod (gD rs d4.2 0) (Wk .i64 (1:Int) (Yy h8)))])=d5.1/\false=(List.isEmpty d5.1))/\True))/\q4 d5)) /\
   ((decide (d4.2<(lI rs)))=false ->
    (((List.length d4.1)+(List.length [(1:Int)]))*8<=70368744177664)/\(I64 (d4.2+(1:Int)))/\(∃ d6:(List Int)×Int,((rs=rs/\True/\True/\(d4.2+(1:Int))=d6.2/\True)/\(LU/\(LX h8)/\((d4.1++[(1:Int)])=d6.1/\false=(List.isEmpty d6.1))/\True))/\q4 d6))) /\
  (((d4.2==(0:Int))||((decide (d4.2<(lI rs)))&&(decide (d4.2<(12:Int)))))=false ->
   (((Yy h8)=(pdH h8)/\True/\(([]:List SV)=[]))/\((d4.1=(pdR (pdH h8) rs)/\(List.isEmpty d4.1)=false)/\True)))) d40
def D9:Cx:=⟨[(3,(.i .i64))],[],48,[],0,[],[],[],[],false,[],[],[],[]⟩
def Ly (h8:Int) (rs:List Int):List (Nat×LoopAnn):=[(0,⟨Unit,(List Int)×Int,[1,4,5,6],λe x=>[.val (.list (.i .u16)) rs,.box 4 0,.box 5 0,.val (.i .i64) x.2],λe x=>[(4,.slot 4,.cells [.val (.i .i64) (0:Int),.nilS] (some 26)),(5,.slot 5,.cells [.val (.i .i64) ((2:Int)+(Int.tmod h8 (7:Int))),.lst 45] (some 26)),(45,.cell 5 1,.lst 3 (.i .i64) x.1 (List.isEmpty x.1))]⟩)]
theorem L9 (d:Int×List Int):gwp (D9) (Ly d.1 d.2) c4 0 (Wj [.cell 4 true 2] (MO d) (ML d)) (Qp 48 (AL.can G_ d))=WK d.1 d.2:=by kernel_rfl
abbrev L5:Prop:=OkC Tryz.prog 4 UG
theorem L1 (h:∀ (h8:Int) (rs:List Int),(0<=h8/\h8<=255/\rs.length<=9223372036854775807/\∀ x∈rs,0<=x/\x<=65535)->WK h8 rs):OkC Tryz.prog 4 UG :=
 Qs J21 mixed (C:=D9) (V:=λ(d:Int×List Int)=>WK d.1 d.2) ⟨.nil,XsOk.nil,ItsOk.nil,YlOk.nil,IysOk.nil,XfOk.nil⟩ (L9) λd hp=>h d.1 d.2 hp
theorem Ld:L5:=L1 λh8 rs h=>by
 obtain⟨h0,h1,h2,h3⟩:=h;unfold WK;(try delta Yy LU LX);(try delta lI gD sT I64 Q2 pj8 pj4);have hr:=Q2f h0;rw[show 2+Int.tmod h8 7=pdH h8 from rfl];generalize pdH h8=H at hr |-;have hs:Wk .i64 1 H=2 ^ H.toNat/\4<=(2:Int) ^ H.toNat/\(2:Int) ^ H.toNat<=256:=by rcases (show H=2\/H=3\/H=4\/H=5\/H=6\/H=7\/H=8 by omega) with h|h|h|h|h|h|h<;>subst h<;>decide
 obtain⟨hs,lU,cU⟩:=hs;rw[hs];obtain⟨k1,k2,k3⟩:=Z3j (rs:=rs) (show 1<=H/\H<=24 by omega);refine⟨by rw[Q7];omega,by decide,by rw[Q7];omega,(),([],0),(by and_intros<;>first|rfl|trivial|simp),?_⟩;refine LoopP.count2 (pdR H rs).length (λk xs=>xs=(pdR H rs).take k) (by simp) λk xs hk hJ q hq=>?_;subst hJ;dsimp only;have dw:((pdR H rs).take k).length=k:=by rw[wD];omega
 have hlen:=Z10 (hk:=H) (rs:=rs);refine⟨λc=>?_,λc=>?_⟩
 .have c:k=0\/k<rs.length/\k<12:=by simp at c;omega
  have aj:k<(pdR H rs).length:=by
   rw[hlen];by_cases aK:rs=[]
   .subst aK;simp at c |-;omega
   .have:=zt.2 aK;rw[z0 aK];omega
  refine⟨λc2=>?_,λc2=>?_⟩
  .have c2:k<rs.length:=by simpa using c2
   have hx:=h3 _ (by rw[Qg c2];exact zh c2:rs.getD k 0∈rs);have e:=Z5p (hk:=H) c2 (show k<12 by omega);simp only[z4];rw[Int.tmod_eq_emod_of_nonneg hx.1];refine⟨by omega,by omega,by rw[Q7];omega,⟨show (0:Int)<=H by omega,show H<=18446744073709551615 by omega⟩,by omega,by rw[Q7];omega,by omega,by rw[dw,xm];omega,by rw[Q7];omega,((pdR H rs).take (k+1),(k:Int)+1),?_,hq _ aj rfl⟩;rw[List.take_add_one,e];and_intros<;>first|rfl|trivial|simp
  .have c2:¬ k<rs.length:=by simpa using c2
   have k0:k=0:=by omega
   have r0:rs=[]:=x5.1 (by omega);subst k0 r0;refine⟨by simp,by rw[Q7];decide,([1],1),?_,hq [1] aj rfl⟩;and_intros<;>first|rfl|trivial|simp
 .have c:¬ (k=0\/k<rs.length/\k<12):=by simp at c;omega
  have aC:k=(pdR H rs).length:=by
   have:(pdR H rs).length<=k:=by
    rw[hlen];by_cases aK:rs=[]
    .rw[z2 aK];omega
    .rw[z0 aK];omega
   omega
  rw[aC,List.take_length]
  have:(pdR H rs).isEmpty=false:=by cases hm:pdR H rs with
   |nil=>exact absurd hm k1
   |cons a l=>rfl
  and_intros<;>first|rfl|trivial|exact this
def H2:AL ((Int×List (Int×Int×Bool))×List Int):=(.cons (.agg (.cons (.k (.i .i64)) (.one (.k (.list (.pair (.i .i64) (.pair (.i .i64) .bo))))))) (.one (.k (.list (.i .u8)))))
def LA (d:(Int×List (Int×Int×Bool))×List Int):Prop:=d.1.2.length<=60/\d.2.length<=9223372036854775807/\∀ x∈d.2,0<=x/\x<=255
def GM (d:(Int×List (Int×Int×Bool))×List Int):SV:=.agg [.val (.i .i64) d.1.1,.lst 0]
def GK (d:(Int×List (Int×Int×Bool))×List Int):List OB:=[.lst 69 (.pair (.i .i64) (.pair (.i .i64) .bo)) (GF d.2 d.1.2) false]
def NQ:CSp:=XD H2 LA GM GK
abbrev Hz :=((0:Int)=(0:Int)/\True/\(([]:List SV)=[]))
abbrev M_ (hk:Int):=(hk=hk/\True/\(([]:List SV)=[]))
abbrev IZ :=((0:Int)=(0:Int)/\(0:Int)=(0:Int)/\false=false/\(([]:List SV)=[]))
def Yw (hk:Int) (cs:List (Int×Int×Bool)) (by_:List Int):Prop :=
 (cs.length<=1000)/\∃ (e3:Unit) (d30:(List (Int×Int×Bool))×Int),((by_=by_/\True/\True/\(0:Int)=d30.2/\True)/\((M_ hk)/\(cs=d30.1/\false=false)/\Hz/\True)) /\
 LoopP (λ(d3:(List (Int×Int×Bool))×Int) (q3:((List (Int×Int×Bool))×Int)->Prop) =>
  ((decide (d3.2<(lI d3.1)))=true ->
   (by_.length<=9223372036854775807/\0<=d3.2/\∀ x∈by_,0<=x/\x<=255)/\((lI d3.1)≠0)/\(0<=d3.2)/\(d3.2<(List.length d3.1))/\(0<=(Int.tmod (Za by_ d3.2) (lI d3.1)))/\((Int.tmod (Za by_ d3.2) (lI d3.1))<(List.length d3.1))/\((by_=by_/\True/\True/\d3.2=d3.2/\(Int.tmod (Za by_ d3.2) (lI d3.1))=(Int.tmod (Za by_ d3.2) (lI d3.1))/\True/\True/\((gD d3.1 (Int.tmod (Za by_ d3.2) (lI d3.1)) (0,(0,false))).1=(gD d3.1 (Int.tmod (Za by_ d3.2) (lI d3.1)) (0,(0,false))).1/\(gD d3.1 (Int.tmod (Za by_ d3.2) (lI d3.1)) (0,(0,false))).2.1=(gD d3.1 (Int.tmod (Za by_ d3.2) (lI d3.1)) (0,(0,false))).2.1/\(gD d3.1 (Int.tmod (Za by_ d3.2) (lI d3.1)) (0,(0,false))).2.2=(gD d3.1 (Int.tmod (Za by_ d3.2) (lI d3.1)) (0,(0,false))).2.2/\(([]:List SV)=[]))/\True)/\((M_ hk)/\Hz/\((gD d3.1 d3.2 (0,(0,false))).1=(gD d3.1 d3.2 (0,(0,false))).1/\(gD d3.1 d3.2 (0,(0,false))).2.1=(gD d3.1 d3.2 (0,(0,false))).2.1/\(gD d3.1 d3.2 (0,(0,false))).2.2=(gD d3.1 d3.2 (0,(0,false))).2.2/\(([]:List SV)=[]))/\IZ/\(d3.1=d3.1/\false=false)/\True))/\((0<=d3.2)/\(d3.2<(List.length d3.1))/\(0<=(Int.tmod (Za by_ d3.2) (lI d3.1)))/\((Int.tmod (Za by_ d3.2) (lI d3.1))<(List.length d3.1))/\((by_=by_/\True/\True/\d3.2=d3.2/\(Int.tmod (Za by_ d3.2) (lI d3.1))=(Int.tmod (Za by_ d3.2) (lI d3.1))/\True/\True/\((gD d3.1 (Int.tmod (Za by_ d3.2) (lI d3.1)) (0,(0,false))).1=(gD d3.1 (Int.tmod (Za by_ d3.2) (lI d3.1)) (0,(0,false))).1/\(gD d3.1 (Int.tmod (Za by_ d3.2) (lI d3.1)) (0,(0,false))).2.1=(gD d3.1 (Int.tmod (Za by_ d3.2) (lI d3.1)) (0,(0,false))).2.1/\(gD d3.1 (Int.tmod (Za by_ d3.2) (lI d3.1)) (0,(0,false))).2.2=(gD d3.1 (Int.tmod (Za by_ d3.2) (lI d3.1)) (0,(0,false))).2.2/\(([]:List SV)=[]))/\True)/\((M_ hk)/\Hz/\((gD d3.1 d3.2 (0,(0,false))).1=(gD d3.1 d3.2 (0,(0,false))).1/\(gD d3.1 d3.2 (0,(0,false))).2.1=(gD d3.1 d3.2 (0,(0,false))).2.1/\(gD d3.1 d3.2 (0,(0,false))).2.2=(gD d3.1 d3.2 (0,(0,false))).2.2/\(([]:List SV)=[]))/\IZ/\(d3.1=d3.1/\false=false)/\True)))/\(0<=(Int.tmod (Za by_ d3.2) (lI d3.1)))/\((Int.tmod (Za by_ d3.2) (lI d3.1))<(List.length d3.1))/\(((Int.tmod (Za by_ d3.2) (lI d3.1)) != d3.2)=true ->
    (0<=d3.2)/\(d3.2<(List.length (sT d3.1 (Int.tmod (Za by_ d3.2) (lI d3.1)) ((gD d3.1 d3.2 (0,(0,false))).1,((gD d3.1 d3.2 (0,(0,false))).2.1,(gD d3.1 d3.2 (0,(0,false))).2.2)))))/\(I64 (d3.2+(1:Int)))/\(by_.length<=9223372036854775807/\0<=(d3.2+(1:Int))/\∀ x∈by_,0<=x/\x<=255)/\((3:Int)≠0)/\(0<=d3.2)/\(d3.2<(List.length (sT (sT d3.1 (Int.tmod (Za by_ d3.2) (lI d3.1)) ((gD d3.1 d3.2 (0,(0,false))).1,((gD d3.1 d3.2 (0,(0,false))).2.1,(gD d3.1 d3.2 (0,(0,false))).2.2))) d3.2 ((gD d3.1 (Int.tmod (Za by_ d3.2) (lI d3.1)) (0,(0,false))).1,((gD d3.1 (Int.tmod (Za by_ d3.2) (lI d3.1)) (0,(0,false))).2.1,(gD d3.1 (Int.tmod (Za by_ d3.2) (lI d3.1)) (0,(0,false))).2.2)))))/\(I64 (d3.2+(1:Int)))/\(∃ d4:(List (Int×Int×Bool))×Int,((by_=by_/\True/\True/\(d3.2+(1:Int))=d4.2/\True)/\((M_ hk)/\((sT (sT (sT d3.1 (Int.tmod (Za by_ d3.2) (lI d3.1)) ((gD d3.1 d3.2 (0,(0,false))).1,((gD d3.1 d3.2 (0,(0,false))).2.1,(gD d3.1 d3.2 (0,(0,false))).2.2))) d3.2 ((gD d3.1 (Int.tmod (Za by_ d3.2) (lI d3.1)) (0,(0,false))).1,((gD d3.1 (Int.tmod (Za by_ d3.2) (lI d3.1)) (0,(0,false))).2.1,(gD d3.1 (Int.tmod (Za by_ d3.2) (lI d3.1)) (0,(0,false))).2.2))) d3.2 ((gD (sT (sT d3.1 (Int.tmod (Za by_ d3.2) (lI d3.1)) ((gD d3.1 d3.2 (0,(0,false))).1,((gD d3.1 d3.2 (0,(0,false))).2.1,(gD d3.1 d3.2 (0,(0,false))).2.2))) d3.2 ((gD d3.1 (Int.tmod (Za by_ d3.2) (lI d3.1)) (0,(0,false))).1,((gD d3.1 (Int.tmod (Za by_ d3.2) (lI d3.1)) (0,(0,false))).2.1,(gD d3.1 (Int.tmod (Za by_ d3.2) (lI d3.1)) (0,(0,false))).2.2))) d3.2 (0,(0,false))).1,((gD (sT (sT d3.1 (Int.tmod (Za by_ d3.2) (lI d3.1)) ((gD d3.1 d3.2 (0,(0,false))).1,((gD d3.1 d3.2 (0,(0,false))).2.1,(gD d3.1 d3.2 (0,(0,false))).2.2))) d3.2 ((gD d3.1 (Int.tmod (Za by_ d3.2) (lI d3.1)) (0,(0,false))).1,((gD d3.1 (Int.tmod (Za by_ d3.2) (lI d3.1)) (0,(0,false))).2.1,(gD d3.1 (Int.tmod (Za by_ d3.2) (lI d3.1)) (0,(0,false))).2.2))) d3.2 (0,(0,false))).2.1,((Int.tmod (Za by_ (d3.2+(1:Int))) (3:Int))==(0:Int)))))=d4.1/\false=false)/\Hz/\True))/\q3 d4)) /\
   (((Int.tmod (Za by_ d3.2) (lI d3.1)) != d3.2)=false ->
    (I64 (d3.2+(1:Int)))/\(by_.length<=9223372036854775807/\0<=(d3.2+(1:Int))/\∀ x∈by_,0<=x/\x<=255)/\((3:Int)≠0)/\(0<=d3.2)/\(d3.2<(List.length (sT d3.1 (Int.tmod (Za by_ d3.2) (lI d3.1)) ((gD d3.1 d3.2 (0,(0,false))).1,((gD d3.1 d3.2 (0,(0,false))).2.1,(gD d3.1 d3.2 (0,(0,false))).2.2)))))/\(I64 (d3.2+(1:Int)))/\(∃ d5:(List (Int×Int×Bool))×Int,((by_=by_/\True/\True/\(d3.2+(1:Int))=d5.2/\True)/\((M_ hk)/\((sT (sT d3.1 (Int.tmod (Za by_ d3.2) (lI d3.1)) ((gD d3.1 d3.2 (0,(0,false))).1,((gD d3.1 d3.2 (0,(0,false))).2.1,(gD d3.1 d3.2 (0,(0,false))).2.2))) d3.2 ((gD (sT d3.1 (Int.tmod (Za by_ d3.2) (lI d3.1)) ((gD d3.1 d3.2 (0,(0,false))).1,((gD d3.1 d3.2 (0,(0,false))).2.1,(gD d3.1 d3.2 (0,(0,false))).2.2))) d3.2 (0,(0,false))).1,((gD (sT d3.1 (Int.tmod (Za by_ d3.2) (lI d3.1)) ((gD d3.1 d3.2 (0,(0,false))).1,((gD d3.1 d3.2 (0,(0,false))).2.1,(gD d3.1 d3.2 (0,(0,false))).2.2))) d3.2 (0,(0,false))).2.1,((Int.tmod (Za by_ (d3.2+(1:Int))) (3:Int))==(0:Int)))))=d5.1/\false=false)/\Hz/\True))/\q3 d5))) /\
  ((decide (d3.2<(lI d3.1)))=false ->
   ((M_ hk)/\((d3.1=(GF by_ cs)/\false=false)/\True)))) d30
def Bs:Cx:=⟨[],[(14,Yi),(5,VQ)],60,[],0,[],[],[],[1,2,4,5,6,7,8,34],false,[],[],[],[]⟩
def CX (hk:Int) (cs:List (Int×Int×Bool)) (by_:List Int):List (Nat×LoopAnn):=[(0,⟨Unit,(List (Int×Int×Bool))×Int,[1,2,4,5],λe x=>[.val (.list (.i .u8)) by_,.box 2 0,.box 4 0,.val (.i .i64) x.2],λe x=>[(2,.slot 2,.cells [.val (.i .i64) hk,.lst 10] (some 36)),(10,.cell 2 1,.lst 69 (.pair (.i .i64) (.pair (.i .i64) .bo)) x.1 false),(4,.slot 4,.cells [.val (.i .i64) (0:Int),.nilS] (some 36))]⟩)]
theorem Er (d:(Int×List (Int×Int×Bool))×List Int):gwp (Bs) (CX d.1.1 d.1.2 d.2) c12 0 (Wj [.cell 4 true 2] (GM d) (GK d)) (Qp 60 (AL.can H2 d))=Yw d.1.1 d.1.2 d.2:=by kernel_rfl
abbrev Ax:Prop:=OkC Tryz.prog 12 NQ
theorem Ci (h:∀ (hk:Int) (cs:List (Int×Int×Bool)) (by_:List Int),(cs.length<=60/\by_.length<=9223372036854775807/\∀ x∈by_,0<=x/\x<=255)->Yw hk cs by_):OkC Tryz.prog 12 NQ :=
 Qs J0t mixed (C:=Bs) (V:=λ(d:(Int×List (Int×Int×Bool))×List Int)=>Yw d.1.1 d.1.2 d.2) ⟨(.cons NI (.cons P9 .nil)),XsOk.nil,ItsOk.nil,YlOk.nil,IysOk.nil,XfOk.nil⟩ (Er) λd hp=>h d.1.1 d.1.2 d.2 hp
theorem Ao:Ax:=Ci λhk cs by_ h=>by
 obtain⟨h1,h2,h3⟩:=h;unfold Yw;(try delta Hz M_ IZ);(try delta lI gD sT I64 Q2 pj8 pj4);refine⟨by omega,(),(cs,0),(by and_intros<;>first|rfl|trivial|simp),?_⟩;refine LoopP.count2 cs.length (λk xs=>xs=IU by_ cs k) rfl λk xs hk hJ q hq=>?_;have hl:=OV by_ cs k;subst hJ;dsimp only;refine⟨λc=>?_,λc=>?_⟩
 .have c:k<(IU by_ cs k).length:=by simpa using c
  have aj:k<cs.length:=by omega
  have hq:q (Q4o by_ (IU by_ cs k) k,(k:Int)+1):=hq _ aj rfl;have t1:=Int.tmod_nonneg ((IU by_ cs k).length:Int) (Oc h3 (show (0:Int)<=(k:Int) by omega)).1;have t2:=Int.tmod_lt_of_pos (Za by_ k) (show (0:Int)<((IU by_ cs k).length:Int) by omega);unfold Q4o Z65 J1e at hq;dsimp only at hq;generalize Int.tmod (Za by_ (k:Int)) ((IU by_ cs k).length:Int)=z at *
  obtain⟨z,rfl⟩:=z8 t1;simp only[z4] at hq |-;generalize IU by_ cs k=X at *
  unfold Ya at hq;have nW:((z:Int) != (k:Int))=false->q ((X.set z (X.getD k (0,(0,false)))).set k (((X.set z (X.getD k (0,(0,false)))).getD k (0,(0,false))).1,(((X.set z (X.getD k (0,(0,false)))).getD k (0,(0,false))).2.1,Int.tmod (Za by_ ((k:Int)+1)) 3==0)),(k:Int)+1):=by
   intro c2;have e:z=k:=by have:=eq_of_beq (show ((z:Int)==(k:Int))=true by simpa using c2);omega
   subst e;simp only[List.set_set] at hq |-;exact hq
  have l1:∀ u v,(X.set u v).length=cs.length:=λu v=>by rw[xc];exact hl
  have l2:∀ u v u' v',((X.set u v).set u' v').length=cs.length:=λu v u' v'=>by rw[xc];exact l1 u v
  repeat' (first
   |with_reducible refine And.intro ?_ ?_
   |assumption
   |omega
   |(rw[Q7];omega)
   |(rw[l1];omega)
   |(rw[l2];omega)
   |rfl
   |trivial
   |decide
   |(refine⟨_,?_,hq⟩;and_intros<;>first|rfl|trivial)
   |(refine⟨_,?_,nW (by assumption)⟩;and_intros<;>first|rfl|trivial)
   |intro c2)
 .have c:¬ k<(IU by_ cs k).length:=by simpa using c
  have aC:k=cs.length:=by omega
  subst aC;and_intros<;>first|rfl|trivial
def BQ:AL (Unit):=.nil
def Ll (d:Unit):Prop:=True
def Da (d:Unit):SV:=.val .bo true
def GW (d:Unit):List OB:=[]
def ND:CSp:=XD BQ Ll Da GW
abbrev LM :=(((((((Q6 (6:Int) [(7:Int),(56:Int),(0:Int),(21:Int)] [(0:Int),(0:Int),(0:Int),(0:Int)] (2:Int))==(0:Int))&&((Kb (6:Int) [(7:Int),(56:Int),(0:Int),(21:Int)] (3:Int))==(0:Int)))&&((0:Int)==(0:Int)))&&((DQ (6:Int) [(7:Int),(56:Int),(0:Int),(21:Int)] [(0:Int),(0:Int),(0:Int),(0:Int)] (2:Int))==(6:Int)))&&((QJ (6:Int) [(7:Int),(56:Int),(0:Int),(21:Int)] [(0:Int),(0:Int),(0:Int),(0:Int)] (2:Int))==[(11:Int),(25:Int),(9:Int),(21:Int)]))&&((lI (E_ (6:Int) [(7:Int),(56:Int),(0:Int),(21:Int)] (3:Int)))==(1:Int)))
abbrev Oy :=(((((Q6 (6:Int) [(7:Int),(56:Int),(0:Int),(21:Int)] [(0:Int),(0:Int),(0:Int),(0:Int)] (2:Int))==(0:Int))&&((Kb (6:Int) [(7:Int),(56:Int),(0:Int),(21:Int)] (3:Int))==(0:Int)))&&((0:Int)==(0:Int)))&&((DQ (6:Int) [(7:Int),(56:Int),(0:Int),(21:Int)] [(0:Int),(0:Int),(0:Int),(0:Int)] (2:Int))==(6:Int)))
abbrev LK :=(LM&&((gD (E_ (6:Int) [(7:Int),(56:Int),(0:Int),(21:Int)] (3:Int)) (0:Int) (0,(0,(0,false)))).1==(2:Int)))
abbrev LH :=([(7:Int),(56:Int),(0:Int),(21:Int)].length<=1000)
def Yj :Prop :=
 LH/\([(7:Int),(56:Int),(0:Int),(21:Int)].length<=1000/\[(0:Int),(0:Int),(0:Int),(0:Int)].length<=1000)/\LH/\LH/\((6:Int)=6/\[(21:Int),(42:Int)]=[21,42]/\(0:Int)=0/\(1:Int)=1)/\(Oy=true->True)/\(Oy=true->(QJ (6:Int) [(7:Int),(56:Int),(0:Int),(21:Int)] [(0:Int),(0:Int),(0:Int),(0:Int)] (2:Int)).length<=1000000)/\(LM=true->0<=(0:Int))/\(LM=true->(0:Int)<(List.length (E_ (6:Int) [(7:Int),(56:Int),(0:Int),(21:Int)] (3:Int))))/\(LK=true->True)/\(LK=true->([42,21]:List Int).length<=1000000)/\((LK&&(([42,21]:List Int)==[(42:Int),(21:Int)]))=true/\(True))
def B5:Cx:=⟨[(3,(.i .i64))],[(7,VI),(6,Nx),(16,KB),(23,Gt),(19,YE)],69,[],0,[],[],[],[],false,[],[],[],[]⟩
def Af :List (Nat×LoopAnn):=[]
theorem CC (d:Unit):gwp (B5) (Af ) c8 0 (Wj [.tmp 0] (Da d) (GW d)) (Qp 69 (AL.can BQ d))=Yj :=by kernel_rfl
abbrev Cp:Prop:=OkC Tryz.prog 8 ND
theorem A_ (h:(True)->Yj ):OkC Tryz.prog 8 ND :=
 Qs J1p mixed (C:=B5) (V:=λ(d:Unit)=>Yj ) ⟨(.cons Pk (.cons TT (.cons DU (.cons EY (.cons NG .nil))))),XsOk.nil,ItsOk.nil,YlOk.nil,IysOk.nil,XfOk.nil⟩ (CC) λd hp=>h  hp
theorem Ce:Cp:=A_ λ_=>by
 unfold Yj;(try delta LM Oy LK LH);(try delta lI gD sT I64 Q2 pj8 pj4);have e1:Q6 6 [7,56,0,21] [0,0,0,0] 2=0:=by decide +kernel
 have e2:Kb 6 [7,56,0,21] 3=0:=by decide +kernel
 have e3:DQ 6 [7,56,0,21] [0,0,0,0] 2=6:=by decide +kernel
 have e4:QJ 6 [7,56,0,21] [0,0,0,0] 2=[11,25,9,21]:=by decide +kernel
 have e5:E_ 6 [7,56,0,21] 3=[(2,0,1000,false)]:=by decide +kernel
 simp only[e1,e2,e3,e4,e5];and_intros<;>first|decide|exactλ_=>by decide
def DT:AL (Unit):=.nil
def Ls (d:Unit):Prop:=True
def GP (d:Unit):SV:=.val .bo true
def D8 (d:Unit):List OB:=[]
def NP:CSp:=XD DT Ls GP D8
abbrev LZ :=((((((Ja (4:Int) [((0:Int),((1:Int),false)),((3:Int),((8:Int),false)),((1:Int),((2:Int),false)),((2:Int),((4:Int),false)),((4:Int),((15:Int),false))] (0:Int) [(1:Int),(1:Int),(0:Int),(2:Int)])==(0:Int))&&((QQ (4:Int) [((0:Int),((1:Int),false)),((3:Int),((8:Int),false)),((1:Int),((2:Int),false)),((2:Int),((4:Int),false)),((4:Int),((15:Int),false))])==(0:Int)))&&((0:Int)==(0:Int)))&&((H9 (4:Int) [((0:Int),((1:Int),false)),((3:Int),((8:Int),false)),((1:Int),((2:Int),false)),((2:Int),((4:Int),false)),((4:Int),((15:Int),false))] (0:Int) [(1:Int),(1:Int),(0:Int),(2:Int)])==[(1:Int),(8:Int),(2:Int),(2:Int)]))&&((Me (4:Int) [((0:Int),((1:Int),false)),((3:Int),((8:Int),false)),((1:Int),((2:Int),false)),((2:Int),((4:Int),false)),((4:Int),((15:Int),false))] (0:Int) [(1:Int),(1:Int),(0:Int),(2:Int)])==(4:Int)))
abbrev R1 :=([((0:Int),((1:Int),false)),((3:Int),((8:Int),false)),((1:Int),((2:Int),false)),((2:Int),((4:Int),false)),((4:Int),((15:Int),false))].length<=1000)
abbrev On :=((((Ja (4:Int) [((0:Int),((1:Int),false)),((3:Int),((8:Int),false)),((1:Int),((2:Int),false)),((2:Int),((4:Int),false)),((4:Int),((15:Int),false))] (0:Int) [(1:Int),(1:Int),(0:Int),(2:Int)])==(0:Int))&&((QQ (4:Int) [((0:Int),((1:Int),false)),((3:Int),((8:Int),false)),((1:Int),((2:Int),false)),((2:Int),((4:Int),false)),((4:Int),((15:Int),false))])==(0:Int)))&&((0:Int)==(0:Int)))
abbrev zthain_3 :=(Q2o (4:Int) [((0:Int),((1:Int),false)),((3:Int),((8:Int),false)),((1:Int),((2:Int),false)),((2:Int),((4:Int),false)),((4:Int),((15:Int),false))])
abbrev R3 :=((4:Int),((15:Int),false))
abbrev R5 :=((0:Int),((1:Int),false))
abbrev TW :=((3:Int),((8:Int),false))
abbrev TC :=((1:Int),((2:Int),false))
abbrev TF :=((2:Int),((4:Int),false))
def YB :Prop :=
 R1/\([R5,TW,TC,TF,R3].length<=1000/\[(1:Int),(1:Int),(0:Int),(2:Int)].length<=1000)/\R1/\R1/\R1/\(QG (4:Int) [R5,TW,TC,TF,R3]=0/\[(8:Int),(2:Int),(2:Int),(-1:Int),(1:Int)].length<=60/\(∀ r∈[(8:Int),(2:Int),(2:Int),(-1:Int),(1:Int)],-1<=r/\r<2 ^ (4:Int).toNat)/\0<=(2:Int)/\(2:Int)<=6)/\(On=true->True)/\(On=true->(H9 (4:Int) [R5,TW,TC,TF,R3] (0:Int) [(1:Int),(1:Int),(0:Int),(2:Int)]).length<=1000000)/\(LZ=true->True)/\(LZ=true->zthain_3.length<=1000000)/\(((LZ&&(zthain_3==[(1:Int)]))&&((Q0q (4:Int) [R5,TW,TC,TF,R3] [(8:Int),(2:Int),(2:Int),(-1:Int),(1:Int)] (2:Int))==(2:Int)))=true/\(True))
def H3:Cx:=⟨[(3,(.i .i64)),(69,(.pair (.i .i64) (.pair (.i .i64) .bo)))],[(14,Yi),(13,VK),(24,GB),(25,B4),(19,YE)],65,[],0,[],[],[],[],false,[],[],[],[]⟩
def A8 :List (Nat×LoopAnn):=[]
theorem Eb (d:Unit):gwp (H3) (A8 ) c9 0 (Wj [.tmp 0] (GP d) (D8 d)) (Qp 65 (AL.can DT d))=YB :=by kernel_rfl
abbrev Ee:Prop:=OkC Tryz.prog 9 NP
theorem Ar (h:(True)->YB ):OkC Tryz.prog 9 NP :=
 Qs J1v mixed (C:=H3) (V:=λ(d:Unit)=>YB ) ⟨(.cons NI (.cons Pz (.cons Fp (.cons Ox (.cons NG .nil))))),XsOk.nil,ItsOk.nil,YlOk.nil,IysOk.nil,XfOk.nil⟩ (Eb) λd hp=>h  hp
theorem Cr:Ee:=Ar λ_=>by
 unfold YB;(try delta LZ R1 On zthain_3 R3 R5 TW TC TF);(try delta lI gD sT I64 Q2 pj8 pj4);have e1:Ja 4 [(0,(1,false)),(3,(8,false)),(1,(2,false)),(2,(4,false)),(4,(15,false))] 0 [1,1,0,2]=0:=by decide +kernel
 have e2:QQ 4 [(0,(1,false)),(3,(8,false)),(1,(2,false)),(2,(4,false)),(4,(15,false))]=0:=by decide +kernel
 have e3:H9 4 [(0,(1,false)),(3,(8,false)),(1,(2,false)),(2,(4,false)),(4,(15,false))] 0 [1,1,0,2]=[1,8,2,2]:=by decide +kernel
 have e4:Me 4 [(0,(1,false)),(3,(8,false)),(1,(2,false)),(2,(4,false)),(4,(15,false))] 0 [1,1,0,2]=4:=by decide +kernel
 have e5:Q2o 4 [(0,(1,false)),(3,(8,false)),(1,(2,false)),(2,(4,false)),(4,(15,false))]=[1]:=by decide +kernel
 have e6:Q0q 4 [(0,(1,false)),(3,(8,false)),(1,(2,false)),(2,(4,false)),(4,(15,false))] [8,2,2,-1,1] 2=2:=Q8u;have e7:QG 4 [(0,(1,false)),(3,(8,false)),(1,(2,false)),(2,(4,false)),(4,(15,false))]=0:=by decide +kernel
 simp only[e1,e2,e3,e4,e5,e6,e7];and_intros<;>first|decide|exactλ_=>by decide
end Go.Proofs.Tryz