/- A framework for walks, contracts of functions, and their proofs: part 5. -/
import Derived.Test.YtannmfpiibodeaaGreatS4
set_option linter.unusedVariables false
set_option maxRecDepth 100000
namespace Go.Proofs.Tryz
open Go Go.V Go.Proofs
def YC:AL (List Int×((Int->Prop)×(Int->Bool))):=(.cons (.k (.list (.i .i64))) (.one (.fn [(.i .i64)] .bo)))
def N5 (d:List Int×((Int->Prop)×(Int->Bool))):Prop:=d.1.length<=1000000/\∀ x∈d.1,d.2.1 x
def Yu (d:List Int×((Int->Prop)×(Int->Bool))):SV:=.val (.i .i64) (Z16 d.1 d.2.2)
def Yp (d:List Int×((Int->Prop)×(Int->Bool))):List OB:=[]
def XV:CSp:=Y9 YC N5 Yu Yp
def Jb (l:List Int) (p:(Int->Prop)×(Int->Bool)):Prop :=
 ∃ (e2:Unit) (d20:Int),((l=l/\(SV.pf [(.i .i64)] .bo p.1 p.2=SV.pf [(.i .i64)] .bo p.1 p.2)/\(lI l)=(lI l)/\(0:Int)=d20/\True)/\(True)) /\
 LoopP (λ(d2:Int) (q2:(Int)->Prop) =>
  ((decide (d2<(lI l)))=true ->
   (0<=d2)/\(d2<(List.length l))/\(p.1 (gD l d2 0))/\((p.2 (gD l d2 0))=true ->
    (d2=(Z16 l p.2)/\(True))) /\
   ((p.2 (gD l d2 0))=false ->
    (I64 (d2+(1:Int)))/\(∃ d3:Int,((l=l/\(SV.pf [(.i .i64)] .bo p.1 p.2=SV.pf [(.i .i64)] .bo p.1 p.2)/\(lI l)=(lI l)/\(d2+(1:Int))=d3/\True)/\(True))/\q2 d3))) /\
  ((decide (d2<(lI l)))=false ->
   ((-1:Int)=(Z16 l p.2)/\(True)))) d20
def YU:Cx:=⟨[],[],19,[],0,[],[],[],[],false,[],[],[],[]⟩
def NC (l:List Int) (p:(Int->Prop)×(Int->Bool)):List (Nat×LoopAnn):=[(0,⟨Unit,Int,[0,1,7,8],λe x=>[.val (.list (.i .i64)) l,.pf [(.i .i64)] .bo p.1 p.2,.val (.i .i64) (((List.length l):Nat):Int),.val (.i .i64) x],λe x=>[]⟩)]
theorem NJ (d:List Int×((Int->Prop)×(Int->Bool))):gwp (YU) (NC d.1 d.2) c89 0 (Yh [.tmp 4] (Yu d) (Yp d)) (Qo 19 (AL.can YC d))=Jb d.1 d.2:=by kernel_rfl
abbrev M6:Prop:=OkC Tryz.prog 89 XV
theorem Ny (h:∀ (l:List Int) (p:(Int->Prop)×(Int->Bool)),(l.length<=1000000/\∀ x∈l,p.1 x)->Jb l p):OkC Tryz.prog 89 XV :=
 Qu Z91 mixed (C:=YU) (V:=λ(d:List Int×((Int->Prop)×(Int->Bool)))=>Jb d.1 d.2) ⟨.nil,XsOk.nil,ItsOk.nil,YlOk.nil,IysOk.nil,XfOk.nil⟩ (NJ) λd hp=>h d.1 d.2 hp
theorem Z0w {l:List Int}{p:Int->Bool}{k:Nat}(hk:k<l.length) (h:p l[k]=true) (hJ:(l.take k).any p=false):Z16 l p=k:=by
 have:l.findIdx? p=some k:=by rw[List.findIdx?_eq_some_iff_getElem];refine⟨hk,h,λj hj=>?_⟩;have hn:=xc.1 hJ l[j] (List.mem_take_iff_getElem.2 ⟨j,by omega,rfl⟩);simpa using hn
 simp[Z16,this]
theorem Q9l {l:List Int}{p:Int->Bool}(hJ:l.any p=false):Z16 l p=-1:=by
 have:l.findIdx? p=none:=by rw[List.findIdx?_eq_none_iff];intro x hx;have:=xc.1 hJ x hx;simpa using this
 simp[Z16,this]
theorem Q4v (l:List Int) (p:Int->Bool):decide (Z16 l p>=0)=l.any p:=by
 unfold Z16;cases h:l.findIdx? p with
 |none =>
  have:=List.findIdx?_eq_none_iff.1 h;have:l.any p=false:=by rw[xc];intro x hx;simp[this x hx]
  rw[this];rfl
 |some i =>obtain⟨h1,h2,_⟩:=List.findIdx?_eq_some_iff_getElem.1 h;rw[xx.2 ⟨l[i],zd h1,h2⟩];simp
theorem Ma:M6:=Ny λl p hp=>by
 unfold Jb;(try delta lI gD sT I64 Q1 pj8 pj4);simp only[true_and,and_true,exists_eq_left',exists_const,z6,zy];refine LoopP.count l.length (λk=>(l.take k).any p.2=false) (by simp) λk bz hJ q hq=>?_;simp only[z7,Int.ofNat_lt,Qm];refine⟨λao=>?_,λcA=>?_⟩
 .rw[Qf ao];refine⟨by omega,ao,hp.2 _ (zd ao),λhx=>?_,λhx=>⟨by omega,hq ao ?_⟩⟩
  .rw[Z0w ao hx hJ]
  .rw[QO ao,List.any_append,hJ];simp[hx]
 .rw[zP (by omega)] at hJ;rw[Q9l hJ]
def WV:AL (List Int×((Int->Prop)×(Int->Bool))):=(.cons (.k (.list (.i .i64))) (.one (.fn [(.i .i64)] .bo)))
def VN (d:List Int×((Int->Prop)×(Int->Bool))):Prop:=d.1.length<=1000000/\∀ x∈d.1,d.2.1 x
def WI (d:List Int×((Int->Prop)×(Int->Bool))):SV:=.val .bo (d.1.any d.2.2)
def WL (d:List Int×((Int->Prop)×(Int->Bool))):List OB:=[]
def QH:CSp:=Y9 WV VN WI WL
def JG (l:List Int) (p:(Int->Prop)×(Int->Bool)):Prop :=
 (l.length<=1000000/\∀ x∈l,(λ(x1:Int)=>p.1 x1) x)/\((decide ((Z16 l (λ(x1:Int)=>(p.2 x1)))>=(0:Int)))=(l.any p.2)/\(True))
def WY:Cx:=⟨[],[(89,XV)],9,[],0,[],[],[],[],false,[],[],[],[]⟩
def Uv (l:List Int) (p:(Int->Prop)×(Int->Bool)):List (Nat×LoopAnn):=[]
theorem Un (d:List Int×((Int->Prop)×(Int->Bool))):gwp (WY) (Uv d.1 d.2) c60 0 (Yh [.tmp 4] (WI d) (WL d)) (Qo 9 (AL.can WV d))=JG d.1 d.2:=by kernel_rfl
abbrev Uy:Prop:=OkC Tryz.prog 60 QH
theorem Uh (h:∀ (l:List Int) (p:(Int->Prop)×(Int->Bool)),(l.length<=1000000/\∀ x∈l,p.1 x)->JG l p):OkC Tryz.prog 60 QH :=
 Qu Z6h mixed (C:=WY) (V:=λ(d:List Int×((Int->Prop)×(Int->Bool)))=>JG d.1 d.2) ⟨(.cons Ma .nil),XsOk.nil,ItsOk.nil,YlOk.nil,IysOk.nil,XfOk.nil⟩ (Un) λd hp=>h d.1 d.2 hp
theorem ZE:Uy:=Uh λl p hp=>by exact⟨hp,Q4v l p.2,trivial⟩
def H7:AL (Int×Int×Int):=(.cons (.k (.i .i64)) (.cons (.ptr (.one (.k (.i .i64)))) (.one (.ptr (.one (.k (.i .i64)))))))
def LC (d:Int×Int×Int):Prop:=True
def DG (d:Int×Int×Int):SV:=.val .bo (decide (d.1<d.2.1)||decide (d.2.2<d.1))
def DV (d:Int×Int×Int):List OB:=[]
def M_:CSp:=Y9 H7 LC DG DV
def Nr (n:Int) (a:Int) (b:Int):Prop :=
 (((decide (n<a))||(decide (n > b)))=(decide (n<a)||decide (b<n))/\(True))
def HQ:Cx:=⟨[],[],13,[],0,[],[],[],[],false,[],[],[],[]⟩
def A8 (n:Int) (a:Int) (b:Int):List (Nat×LoopAnn):=[]
theorem Eh (d:Int×Int×Int):gwp (HQ) (A8 d.1 d.2.1 d.2.2) c95 0 (Yh [.tmp 4] (DG d) (DV d)) (Qo 13 (AL.can H7 d))=Nr d.1 d.2.1 d.2.2:=by kernel_rfl
abbrev Ai:Prop:=OkC Tryz.prog 95 M_
theorem Ex (h:∀ (n:Int) (a:Int) (b:Int),(True)->Nr n a b):OkC Tryz.prog 95 M_ :=
 Qu J01 mixed (C:=HQ) (V:=λ(d:Int×Int×Int)=>Nr d.1 d.2.1 d.2.2) ⟨.nil,XsOk.nil,ItsOk.nil,YlOk.nil,IysOk.nil,XfOk.nil⟩ (Eh) λd hp=>h d.1 d.2.1 d.2.2 hp
theorem CV:Ai:=Ex λn a b _=>by exact⟨rfl,trivial⟩
def Se:AL (Int×Int×List Int):=(.cons (.k (.i .i64)) (.cons (.k (.i .i64)) (.one (.k (.list (.i .i64))))))
def F8 (d:Int×Int×List Int):Prop:=d.2.2.length<=1000000
def PI (d:Int×Int×List Int):SV:=.val .bo (!(d.2.2.any λn=>decide (n<d.1)||decide (d.2.1<n)))
def PE (d:Int×Int×List Int):List OB:=[]
def H5:CSp:=Y9 Se F8 PI PE
def GS (a:Int) (b:Int) (l:List Int):Prop :=
 (l.length<=1000000/\∀ x∈l,(λ(x1:Int)=>True) x)/\((!(l.any (λ(x1:Int)=>(decide (x1<a)||decide (b<x1)))))=(!(l.any λn=>decide (n<a)||decide (b<n)))/\(True))
def RT:Cx:=⟨[],[(60,QH),(95,M_)],11,[],0,[],[],[],[],false,[],[],[],[]⟩
def OZ (a:Int) (b:Int) (l:List Int):List (Nat×LoopAnn):=[]
theorem OD (d:Int×Int×List Int):gwp (RT) (OZ d.1 d.2.1 d.2.2) c71 0 (Yh [.tmp 6] (PI d) (PE d)) (Qo 11 (AL.can Se d))=GS d.1 d.2.1 d.2.2:=by kernel_rfl
abbrev Q03:Prop:=OkC Tryz.prog 71 H5
theorem Q0v (h:∀ (a:Int) (b:Int) (l:List Int),(l.length<=1000000)->GS a b l):OkC Tryz.prog 71 H5 :=
 Qu Z83 mixed (C:=RT) (V:=λ(d:Int×Int×List Int)=>GS d.1 d.2.1 d.2.2) ⟨(.cons ZE (.cons CV .nil)),XsOk.nil,ItsOk.nil,YlOk.nil,IysOk.nil,XfOk.nil⟩ (OD) λd hp=>h d.1 d.2.1 d.2.2 hp
theorem OP:Q03:=Q0v λa b l h=>by exact⟨⟨h,λ_ _=>trivial⟩,rfl,trivial⟩
def Lk:AL (Int×List Int):=(.one (.agg (.cons (.k (.i .i64)) (.one (.k (.list (.i .i64)))))))
def OO (d:Int×List Int):Prop:=d.2.length<=1000000
def RH (d:Int×List Int):SV:=.val (.i .i64) (Wu d.1 d.2)
def RG (d:Int×List Int):List OB:=[]
def D6:CSp:=Y9 Lk OO RH RG
def Mz (hk:Int) (lw:List Int):Prop :=
 ([hk].length<=1000000)/\((!(!([hk].any λn=>decide (n<(1:Int))||decide ((24:Int)<n))))=true ->
  ((2:Int)=(Wu hk lw)/\(True))) /\
 ((!(!([hk].any λn=>decide (n<(1:Int))||decide ((24:Int)<n))))=false ->
  ((decide ((lI lw) > (96:Int)))=true ->
   ((5:Int)=(Wu hk lw)/\(True))) /\
  ((decide ((lI lw) > (96:Int)))=false ->
   (((lI lw)==(0:Int))=true ->
    ((7:Int)=(Wu hk lw)/\(True))) /\
   (((lI lw)==(0:Int))=false ->
    (I64 (hk-(1:Int)))/\(lw.length<=1000000)/\((!(!(lw.any λn=>decide (n<(0:Int))||decide ((hk-(1:Int))<n))))=true ->
     ((2:Int)=(Wu hk lw)/\(True))) /\
    ((!(!(lw.any λn=>decide (n<(0:Int))||decide ((hk-(1:Int))<n))))=false ->
     ((0:Int)=(Wu hk lw)/\(True))))))
def L6:Cx:=⟨[(3,(.i .i64))],[(71,H5)],27,[],0,[],[],[],[],false,[],[],[],[]⟩
def Q37 (hk:Int) (lw:List Int):List (Nat×LoopAnn):=[]
theorem Q2a (d:Int×List Int):gwp (L6) (Q37 d.1 d.2) c46 0 (Yh [.tmp 2] (RH d) (RG d)) (Qo 27 (AL.can Lk d))=Mz d.1 d.2:=by kernel_rfl
abbrev Q35:Prop:=OkC Tryz.prog 46 D6
theorem Q2n (h:∀ (hk:Int) (lw:List Int),(lw.length<=1000000)->Mz hk lw):OkC Tryz.prog 46 D6 :=
 Qu Z8q mixed (C:=L6) (V:=λ(d:Int×List Int)=>Mz d.1 d.2) ⟨(.cons OP .nil),XsOk.nil,ItsOk.nil,YlOk.nil,IysOk.nil,XfOk.nil⟩ (Q2a) λd hp=>h d.1 d.2 hp
theorem nI (n a b:Int):(!inI n a b)=(decide (n<a)||decide (b<n)):=by simp only[inI,Bool.not_and];by_cases h1:a<=n<;>by_cases h2:n<=b<;>simp[h1,h2]<;>omega
theorem Li:Q35:=Q2n λhk lw hl=>by
 unfold Mz;(try delta lI gD sT I64 Q1 pj8 pj4);simp only[and_true,z6,zy,zH,ne_eq,zW,gt_iff_lt,Bool.not_not];simp only[<-nI];refine⟨by simp,λh1=>by simp at h1;simp[Wu,h1],λh1=>⟨λh2=>?_,λh2=>⟨λh3=>?_,λh3=>?_⟩⟩⟩;all_goals simp only[List.any_cons,List.any_nil,xy,xg] at h1
 .have:96<lw.length:=by omega
  simp[Wu,h1,this]
 .have h3:lw.length=0:=by omega
  simp[Wu,h1,h3]
 have iu:¬ 96<lw.length:=by omega
 have gk:¬ lw.length=0:=by omega
 have hi:1<=hk/\hk<=24:=by simpa [inI] using h1
 have rp:Wu hk lw=if lw.any (λx=>!inI x 0 (hk-1)) then 2 else 0:=by simp only[Wu,h1,iu,gk];simp
 rw[rp];simp only[Qm];refine⟨by omega,by omega,λh=>by rw[z2 h],λh=>by rw[h];rfl⟩
def G8:AL (Int×Int×Int):=(.cons (.k (.i .i64)) (.cons (.ptr (.one (.k (.i .i64)))) (.one (.ptr (.one (.k (.i .i64)))))))
def S9 (d:Int×Int×Int):Prop:=True
def MG (d:Int×Int×Int):SV:=.val .bo (decide (d.1<d.2.1)||decide (d.2.2<d.1))
def Mn (d:Int×Int×Int):List OB:=[]
def UB:CSp:=Y9 G8 S9 MG Mn
def VO (n:Int) (a:Int) (b:Int):Prop :=
 (((decide (n<a))||(decide (n > b)))=(decide (n<a)||decide (b<n))/\(True))
def Gw:Cx:=⟨[],[],13,[],0,[],[],[],[],false,[],[],[],[]⟩
def SK (n:Int) (a:Int) (b:Int):List (Nat×LoopAnn):=[]
theorem SH (d:Int×Int×Int):gwp (Gw) (SK d.1 d.2.1 d.2.2) c96 0 (Yh [.tmp 4] (MG d) (Mn d)) (Qo 13 (AL.can G8 d))=VO d.1 d.2.1 d.2.2:=by kernel_rfl
abbrev L1:Prop:=OkC Tryz.prog 96 UB
theorem Sj (h:∀ (n:Int) (a:Int) (b:Int),(True)->VO n a b):OkC Tryz.prog 96 UB :=
 Qu Z6m mixed (C:=Gw) (V:=λ(d:Int×Int×Int)=>VO d.1 d.2.1 d.2.2) ⟨.nil,XsOk.nil,ItsOk.nil,YlOk.nil,IysOk.nil,XfOk.nil⟩ (SH) λd hp=>h d.1 d.2.1 d.2.2 hp
theorem S_:L1:=Sj λn a b _=>by exact⟨rfl,trivial⟩
def Bx:AL (Int×Int×List Int):=(.cons (.k (.i .i64)) (.cons (.k (.i .i64)) (.one (.k (.list (.i .i64))))))
def LY (d:Int×Int×List Int):Prop:=d.2.2.length<=1000000
def Dy (d:Int×Int×List Int):SV:=.val .bo (!(d.2.2.any λn=>decide (n<d.1)||decide (d.2.1<n)))
def DJ (d:Int×Int×List Int):List OB:=[]
def ML:CSp:=Y9 Bx LY Dy DJ
def Nn (a:Int) (b:Int) (l:List Int):Prop :=
 (l.length<=1000000/\∀ x∈l,(λ(x1:Int)=>True) x)/\((!(l.any (λ(x1:Int)=>(decide (x1<a)||decide (b<x1)))))=(!(l.any λn=>decide (n<a)||decide (b<n)))/\(True))
def BW:Cx:=⟨[],[(60,QH),(96,UB)],11,[],0,[],[],[],[],false,[],[],[],[]⟩
def Ab (a:Int) (b:Int) (l:List Int):List (Nat×LoopAnn):=[]
theorem EP (d:Int×Int×List Int):gwp (BW) (Ab d.1 d.2.1 d.2.2) c72 0 (Yh [.tmp 6] (Dy d) (DJ d)) (Qo 11 (AL.can Bx d))=Nn d.1 d.2.1 d.2.2:=by kernel_rfl
abbrev At:Prop:=OkC Tryz.prog 72 ML
theorem E6 (h:∀ (a:Int) (b:Int) (l:List Int),(l.length<=1000000)->Nn a b l):OkC Tryz.prog 72 ML :=
 Qu Z8n mixed (C:=BW) (V:=λ(d:Int×Int×List Int)=>Nn d.1 d.2.1 d.2.2) ⟨(.cons ZE (.cons S_ .nil)),XsOk.nil,ItsOk.nil,YlOk.nil,IysOk.nil,XfOk.nil⟩ (EP) λd hp=>h d.1 d.2.1 d.2.2 hp
theorem A_:At:=E6 λa b l h=>by exact⟨⟨h,λ_ _=>trivial⟩,rfl,trivial⟩
def Py:AL (Int×List Int):=(.one (.agg (.cons (.k (.i .i64)) (.one (.k (.list (.i .i64)))))))
def EG (d:Int×List Int):Prop:=d.2.length<=1000000
def Hx (d:Int×List Int):SV:=.val (.i .i64) (Zb d.1 d.2)
def BO (d:Int×List Int):List OB:=[]
def Ni:CSp:=Y9 Py EG Hx BO
def U5 (hd:Int) (rows:List Int):Prop :=
 ([hd].length<=1000000)/\((!(!([hd].any λn=>decide (n<(1:Int))||decide ((24:Int)<n))))=true ->
  ((2:Int)=(Zb hd rows)/\(True))) /\
 ((!(!([hd].any λn=>decide (n<(1:Int))||decide ((24:Int)<n))))=false ->
  ((decide ((lI rows) > (60:Int)))=true ->
   ((5:Int)=(Zb hd rows)/\(True))) /\
  ((decide ((lI rows) > (60:Int)))=false ->
   (((lI rows)==(0:Int))=true ->
    ((7:Int)=(Zb hd rows)/\(True))) /\
   (((lI rows)==(0:Int))=false ->
    (0<=hd)/\(I64 (Je .i64 (1:Int) hd))/\(I64 ((Je .i64 (1:Int) hd)-(1:Int)))/\(rows.length<=1000000)/\((!(!(rows.any λn=>decide (n<(0:Int))||decide (((Je .i64 (1:Int) hd)-(1:Int))<n))))=true ->
     ((2:Int)=(Zb hd rows)/\(True))) /\
    ((!(!(rows.any λn=>decide (n<(0:Int))||decide (((Je .i64 (1:Int) hd)-(1:Int))<n))))=false ->
     ((0:Int)=(Zb hd rows)/\(True))))))
def PW:Cx:=⟨[(3,(.i .i64))],[(72,ML)],28,[],0,[],[],[],[],false,[],[],[],[]⟩
def I7 (hd:Int) (rows:List Int):List (Nat×LoopAnn):=[]
theorem Fl (d:Int×List Int):gwp (PW) (I7 d.1 d.2) c47 0 (Yh [.tmp 2] (Hx d) (BO d)) (Qo 28 (AL.can Py d))=U5 d.1 d.2:=by kernel_rfl
abbrev FC:Prop:=OkC Tryz.prog 47 Ni
theorem F2 (h:∀ (hd:Int) (rows:List Int),(rows.length<=1000000)->U5 hd rows):OkC Tryz.prog 47 Ni :=
 Qu Z8m mixed (C:=PW) (V:=λ(d:Int×List Int)=>U5 d.1 d.2) ⟨(.cons A_ .nil),XsOk.nil,ItsOk.nil,YlOk.nil,IysOk.nil,XfOk.nil⟩ (Fl) λd hp=>h d.1 d.2 hp
theorem Q3n {h:Int}(h1:0<=h) (h2:h<=62):Je .i64 1 h=2 ^ h.toNat:=by obtain⟨n,rfl⟩:=zm h1;have:Nat.min n 64=n:=xD (by omega);simp only[Je,z7,IntKind.bits,this,Int.one_mul]
theorem H9 {h:Int}(h1:1<=h) (h2:h<=24):(2:Int)<=2 ^ h.toNat/\(2:Int) ^ h.toNat<=16777216:=by
 obtain⟨n,rfl⟩:=zm (show 0<=h by omega);have a1:2 ^ 1<=2 ^ n:=Nat.pow_le_pow_right (by omega) (by omega);have a2:2 ^ n<=2 ^ 24:=Nat.pow_le_pow_right (by omega) (by omega);simp only[z7];have e:((2:Int) ^ n)=((2 ^ n:Nat):Int):=by norm_cast
 rw[e];omega
theorem PL:FC:=F2 λhd rows hl=>by
 unfold U5;(try delta lI gD sT I64 Q1 pj8 pj4);simp only[and_true,z6,zy,zH,ne_eq,zW,gt_iff_lt,Bool.not_not];simp only[<-nI];refine⟨by simp,λh1=>by simp at h1;simp[Zb,h1],λh1=>⟨λh2=>?_,λh2=>⟨λh3=>?_,λh3=>?_⟩⟩⟩;all_goals simp only[List.any_cons,List.any_nil,xy,xg] at h1
 .have:60<rows.length:=by omega
  simp[Zb,h1,this]
 .have h3:rows.length=0:=by omega
  simp[Zb,h1,h3]
 have iu:¬ 60<rows.length:=by omega
 have gk:¬ rows.length=0:=by omega
 have hi:1<=hd/\hd<=24:=by simpa [inI] using h1
 have hp:=H9 hi.1 hi.2;have rp:Zb hd rows=if rows.any (λx=>!inI x 0 (2 ^ hd.toNat-1)) then 2 else 0:=by simp only[Zb,h1,iu,gk];simp
 rw[rp];simp only[Qm,Q3n (show 0<=hd by omega) (by omega)];refine⟨by omega,by omega,by omega,by omega,λh=>by rw[z2 h],λh=>by rw[h];rfl⟩
def G5:AL (Int×Int×Int):=(.cons (.k (.i .i64)) (.cons (.ptr (.one (.k (.i .i64)))) (.one (.ptr (.one (.k (.i .i64)))))))
def Rb (d:Int×Int×Int):Prop:=True
def Mr (d:Int×Int×Int):SV:=.val .bo (decide (d.1<d.2.1)||decide (d.2.2<d.1))
def MA (d:Int×Int×Int):List OB:=[]
def UH:CSp:=Y9 G5 Rb Mr MA
def VY (n:Int) (a:Int) (b:Int):Prop :=
 (((decide (n<a))||(decide (n > b)))=(decide (n<a)||decide (b<n))/\(True))
def GB:Cx:=⟨[],[],13,[],0,[],[],[],[],false,[],[],[],[]⟩
def Sm (n:Int) (a:Int) (b:Int):List (Nat×LoopAnn):=[]
theorem L0 (d:Int×Int×Int):gwp (GB) (Sm d.1 d.2.1 d.2.2) c61 0 (Yh [.tmp 4] (Mr d) (MA d)) (Qo 13 (AL.can G5 d))=VY d.1 d.2.1 d.2.2:=by kernel_rfl
abbrev SD:Prop:=OkC Tryz.prog 61 UH
theorem SP (h:∀ (n:Int) (a:Int) (b:Int),(True)->VY n a b):OkC Tryz.prog 61 UH :=
 Qu Z6w mixed (C:=GB) (V:=λ(d:Int×Int×Int)=>VY d.1 d.2.1 d.2.2) ⟨.nil,XsOk.nil,ItsOk.nil,YlOk.nil,IysOk.nil,XfOk.nil⟩ (L0) λd hp=>h d.1 d.2.1 d.2.2 hp
theorem Sv:SD:=SP λn a b _=>by exact⟨rfl,trivial⟩
def Ho:AL (Int×Int×List Int):=(.cons (.k (.i .i64)) (.cons (.k (.i .i64)) (.one (.k (.list (.i .i64))))))
def Cd (d:Int×Int×List Int):Prop:=d.2.2.length<=1000000
def DK (d:Int×Int×List Int):SV:=.val .bo (!(d.2.2.any λn=>decide (n<d.1)||decide (d.2.1<n)))
def Dx (d:Int×Int×List Int):List OB:=[]
def Kl:CSp:=Y9 Ho Cd DK Dx
def M9 (a:Int) (b:Int) (l:List Int):Prop :=
 (l.length<=1000000/\∀ x∈l,(λ(x1:Int)=>True) x)/\((!(l.any (λ(x1:Int)=>(decide (x1<a)||decide (b<x1)))))=(!(l.any λn=>decide (n<a)||decide (b<n)))/\(True))
def BP:Cx:=⟨[],[(60,QH),(61,UH)],11,[],0,[],[],[],[],false,[],[],[],[]⟩
def E3 (a:Int) (b:Int) (l:List Int):List (Nat×LoopAnn):=[]
theorem Aa (d:Int×Int×List Int):gwp (BP) (E3 d.1 d.2.1 d.2.2) c34 0 (Yh [.tmp 6] (DK d) (Dx d)) (Qo 11 (AL.can Ho d))=M9 d.1 d.2.1 d.2.2:=by kernel_rfl
abbrev CG:Prop:=OkC Tryz.prog 34 Kl
theorem A5 (h:∀ (a:Int) (b:Int) (l:List Int),(l.length<=1000000)->M9 a b l):OkC Tryz.prog 34 Kl :=
 Qu Z7x mixed (C:=BP) (V:=λ(d:Int×Int×List Int)=>M9 d.1 d.2.1 d.2.2) ⟨(.cons ZE (.cons Sv .nil)),XsOk.nil,ItsOk.nil,YlOk.nil,IysOk.nil,XfOk.nil⟩ (Aa) λd hp=>h d.1 d.2.1 d.2.2 hp
theorem Nw:CG:=A5 λa b l h=>by exact⟨⟨h,λ_ _=>trivial⟩,rfl,trivial⟩
def RW:AL (Int):=(.one (.k (.i .i64)))
def FJ (d:Int):Prop:=True
def PC (d:Int):SV:=.val (.i .i64) (Pf d)
def PS (d:Int):List OB:=[]
def Bz:CSp:=Y9 RW FJ PC PS
def N2 (k:Int):Prop :=
 ((k==(2:Int))=true ->
  ((1:Int)=(Pf k)/\(True))) /\
 ((k==(2:Int))=false ->
  ((k==(5:Int))=true ->
   ((2:Int)=(Pf k)/\(True))) /\
  ((k==(5:Int))=false ->
   ((0:Int)=(Pf k)/\(True))))
def RQ:Cx:=⟨[],[],8,[],0,[],[],[],[],false,[],[],[],[]⟩
def Q0j (k:Int):List (Nat×LoopAnn):=[]
theorem Q05 (d:Int):gwp (RQ) (Q0j d) c54 0 (Yh [.tmp 2] (PC d) (PS d)) (Qo 8 (AL.can RW d))=N2 d:=by kernel_rfl
abbrev OV:Prop:=OkC Tryz.prog 54 Bz
theorem Q01 (h:∀ (k:Int),(True)->N2 k):OkC Tryz.prog 54 Bz :=
 Qu Z9k mixed (C:=RQ) (V:=λ(d:Int)=>N2 d) ⟨.nil,XsOk.nil,ItsOk.nil,YlOk.nil,IysOk.nil,XfOk.nil⟩ (Q05) λd hp=>h d hp
theorem Oh:OV:=Q01 λk _=>by unfold N2;(try delta lI gD sT I64 Q1 pj8 pj4);unfold Pf;simp only[zH,zW,ne_eq];refine⟨λh=>?_,λh=>⟨λh2=>?_,λh2=>?_⟩⟩<;>simp[*]
def Ug:AL ((Int×Int×Int×Int×Bool)×Int×Int×Int×Int×Bool):=(.cons (.agg (.cons (.k (.i .i64)) (.cons (.k (.i .i64)) (.cons (.k (.i .i64)) (.cons (.k (.i .i64)) (.one (.k .bo))))))) (.one (.agg (.cons (.k (.i .i64)) (.cons (.k (.i .i64)) (.cons (.k (.i .i64)) (.cons (.k (.i .i64)) (.one (.k .bo)))))))))
def Be (d:(Int×Int×Int×Int×Bool)×Int×Int×Int×Int×Bool):Prop:=True
def Vt (d:(Int×Int×Int×Int×Bool)×Int×Int×Int×Int×Bool):SV:=.val (.i .i64) (Pf d.1.1-Pf d.2.1)
def VF (d:(Int×Int×Int×Int×Bool)×Int×Int×Int×Int×Bool):List OB:=[]
def X0:CSp:=Y9 Ug Be Vt VF
def W9 (dk:Int) (dp:Int) (dh:Int) (dw:Int) (du:Bool) (ek:Int) (ep:Int) (eh:Int) (ew:Int) (eu:Bool):Prop :=
 (True)/\(True)/\(I64 ((Pf dk)-(Pf ek)))/\(((Pf dk)-(Pf ek))=(Pf dk-Pf ek)/\(True))
def Uw:Cx:=⟨[],[(54,Bz)],12,[],0,[],[],[],[],false,[],[],[],[]⟩
def Hk (dk:Int) (dp:Int) (dh:Int) (dw:Int) (du:Bool) (ek:Int) (ep:Int) (eh:Int) (ew:Int) (eu:Bool):List (Nat×LoopAnn):=[]
theorem HR (d:(Int×Int×Int×Int×Bool)×Int×Int×Int×Int×Bool):gwp (Uw) (Hk d.1.1 d.1.2.1 d.1.2.2.1 d.1.2.2.2.1 d.1.2.2.2.2 d.2.1 d.2.2.1 d.2.2.2.1 d.2.2.2.2.1 d.2.2.2.2.2) c53 0 (Yh [.tmp 4] (Vt d) (VF d)) (Qo 12 (AL.can Ug d))=W9 d.1.1 d.1.2.1 d.1.2.2.1 d.1.2.2.2.1 d.1.2.2.2.2 d.2.1 d.2.2.1 d.2.2.2.1 d.2.2.2.2.1 d.2.2.2.2.2:=by kernel_rfl
abbrev BS:Prop:=OkC Tryz.prog 53 X0
theorem Bw (h:∀ (dk:Int) (dp:Int) (dh:Int) (dw:Int) (du:Bool) (ek:Int) (ep:Int) (eh:Int) (ew:Int) (eu:Bool),(True)->W9 dk dp dh dw du ek ep eh ew eu):OkC Tryz.prog 53 X0 :=
 Qu Z7g mixed (C:=Uw) (V:=λ(d:(Int×Int×Int×Int×Bool)×Int×Int×Int×Int×Bool)=>W9 d.1.1 d.1.2.1 d.1.2.2.1 d.1.2.2.2.1 d.1.2.2.2.2 d.2.1 d.2.2.1 d.2.2.2.1 d.2.2.2.2.1 d.2.2.2.2.2) ⟨(.cons Oh .nil),XsOk.nil,ItsOk.nil,YlOk.nil,IysOk.nil,XfOk.nil⟩ (HR) λd hp=>h d.1.1 d.1.2.1 d.1.2.2.1 d.1.2.2.2.1 d.1.2.2.2.2 d.2.1 d.2.2.1 d.2.2.2.1 d.2.2.2.2.1 d.2.2.2.2.2 hp
theorem YQ:BS:=Bw λdk dp dh dw du ek ep eh ew eu _=>by
 unfold W9;(try delta lI gD sT I64 Q1 pj8 pj4);have h:∀ k,0<=Pf k/\Pf k<=2:=λk=>by unfold Pf;split<;>(try split)<;>omega
 have h1:=h dk;have h2:=h ek;rw[Qm];and_intros<;>first|omega|rfl|trivial
def Zn:AL ((List (Int×Int×Int×Int×Bool))×((Int×Int×Int×Int×Bool->Prop)×(Int×Int×Int×Int×Bool->Bool))):=(.cons (.k (.list (.pair (.i .i64) (.pair (.i .i64) (.pair (.i .i64) (.pair (.i .i64) .bo)))))) (.one (.fn [(.pair (.i .i64) (.pair (.i .i64) (.pair (.i .i64) (.pair (.i .i64) .bo))))] .bo)))
def X9 (d:(List (Int×Int×Int×Int×Bool))×((Int×Int×Int×Int×Bool->Prop)×(Int×Int×Int×Int×Bool->Bool))):Prop:=d.1.length<=1000000/\∀ x∈d.1,d.2.1 x
def Zc (d:(List (Int×Int×Int×Int×Bool))×((Int×Int×Int×Int×Bool->Prop)×(Int×Int×Int×Int×Bool->Bool))):SV:=.val (.i .i64) (Om d.1 d.2.2)
def Zf (d:(List (Int×Int×Int×Int×Bool))×((Int×Int×Int×Int×Bool->Prop)×(Int×Int×Int×Int×Bool->Bool))):List OB:=[]
def QF:CSp:=Y9 Zn X9 Zc Zf
def Qj (l:List (Int×Int×Int×Int×Bool)) (p:(Int×Int×Int×Int×Bool->Prop)×(Int×Int×Int×Int×Bool->Bool)):Prop :=
 ∃ (e2:Unit) (d20:Int),((l=l/\(SV.pf [(.pair (.i .i64) (.pair (.i .i64) (.pair (.i .i64) (.pair (.i .i64) .bo))))] .bo p.1 p.2=SV.pf [(.pair (.i .i64) (.pair (.i .i64) (.pair (.i .i64) (.pair (.i .i64) .bo))))] .bo p.1 p.2)/\(lI l)=(lI l)/\(0:Int)=d20/\True)/\(True)) /\
 LoopP (λ(d2:Int) (q2:(Int)->Prop) =>
  ((decide (d2<(lI l)))=true ->
   (0<=d2)/\(d2<(List.length l))/\(p.1 ((gD l d2 (0,(0,(0,(0,false))))).1,((gD l d2 (0,(0,(0,(0,false))))).2.1,((gD l d2 (0,(0,(0,(0,false))))).2.2.1,((gD l d2 (0,(0,(0,(0,false))))).2.2.2.1,(gD l d2 (0,(0,(0,(0,false))))).2.2.2.2)))))/\((p.2 ((gD l d2 (0,(0,(0,(0,false))))).1,((gD l d2 (0,(0,(0,(0,false))))).2.1,((gD l d2 (0,(0,(0,(0,false))))).2.2.1,((gD l d2 (0,(0,(0,(0,false))))).2.2.2.1,(gD l d2 (0,(0,(0,(0,false))))).2.2.2.2)))))=true ->
    (d2=(Om l p.2)/\(True))) /\
   ((p.2 ((gD l d2 (0,(0,(0,(0,false))))).1,((gD l d2 (0,(0,(0,(0,false))))).2.1,((gD l d2 (0,(0,(0,(0,false))))).2.2.1,((gD l d2 (0,(0,(0,(0,false))))).2.2.2.1,(gD l d2 (0,(0,(0,(0,false))))).2.2.2.2)))))=false ->
    (I64 (d2+(1:Int)))/\(∃ d3:Int,((l=l/\(SV.pf [(.pair (.i .i64) (.pair (.i .i64) (.pair (.i .i64) (.pair (.i .i64) .bo))))] .bo p.1 p.2=SV.pf [(.pair (.i .i64) (.pair (.i .i64) (.pair (.i .i64) (.pair (.i .i64) .bo))))] .bo p.1 p.2)/\(lI l)=(lI l)/\(d2+(1:Int))=d3/\True)/\(True))/\q2 d3))) /\
  ((decide (d2<(lI l)))=false ->
   ((-1:Int)=(Om l p.2)/\(True)))) d20
def Zl:Cx:=⟨[],[],19,[],0,[],[],[],[],false,[],[],[],[]⟩
def Xr (l:List (Int×Int×Int×Int×Bool)) (p:(Int×Int×Int×Int×Bool->Prop)×(Int×Int×Int×Int×Bool->Bool)):List (Nat×LoopAnn):=[(0,⟨Unit,Int,[0,1,7,8],λe x=>[.val (.list (.pair (.i .i64) (.pair (.i .i64) (.pair (.i .i64) (.pair (.i .i64) .bo))))) l,.pf [(.pair (.i .i64) (.pair (.i .i64) (.pair (.i .i64) (.pair (.i .i64) .bo))))] .bo p.1 p.2,.val (.i .i64) (((List.length l):Nat):Int),.val (.i .i64) x],λe x=>[]⟩)]
theorem XB (d:(List (Int×Int×Int×Int×Bool))×((Int×Int×Int×Int×Bool->Prop)×(Int×Int×Int×Int×Bool->Bool))):gwp (Zl) (Xr d.1 d.2) c98 0 (Yh [.tmp 4] (Zc d) (Zf d)) (Qo 19 (AL.can Zn d))=Qj d.1 d.2:=by kernel_rfl
abbrev XE:Prop:=OkC Tryz.prog 98 QF
theorem Xj (h:∀ (l:List (Int×Int×Int×Int×Bool)) (p:(Int×Int×Int×Int×Bool->Prop)×(Int×Int×Int×Int×Bool->Bool)),(l.length<=1000000/\∀ x∈l,p.1 x)->Qj l p):OkC Tryz.prog 98 QF :=
 Qu Z77 mixed (C:=Zl) (V:=λ(d:(List (Int×Int×Int×Int×Bool))×((Int×Int×Int×Int×Bool->Prop)×(Int×Int×Int×Int×Bool->Bool)))=>Qj d.1 d.2) ⟨.nil,XsOk.nil,ItsOk.nil,YlOk.nil,IysOk.nil,XfOk.nil⟩ (XB) λd hp=>h d.1 d.2 hp
theorem XC:XE:=Xj λl p hp=>by
 unfold Qj;(try delta lI gD sT I64 Q1 pj8 pj4);simp only[true_and,and_true,exists_eq_left',exists_const,z6,zy];refine LoopP.count l.length (λk=>(l.take k).any p.2=false) (by simp) λk bz hJ q hq=>?_;simp only[z7,Int.ofNat_lt,Qm];refine⟨λao=>?_,λcA=>?_⟩
 .have ao:k<l.length:=by omega
  rw[Qf ao];refine⟨by omega,by omega,hp.2 _ (zd ao),λhx=>?_,λhx=>⟨by omega,hq ao ?_⟩⟩
  .rw[AM ao hx hJ]
  .rw[QO ao,List.any_append,hJ];simp[hx]
 .rw[zP (by omega)] at hJ;rw[R7 hJ]
def Z5:AL ((List (Int×Int×Int×Int×Bool))×((Int×Int×Int×Int×Bool->Prop)×(Int×Int×Int×Int×Bool->Bool))):=(.cons (.k (.list (.pair (.i .i64) (.pair (.i .i64) (.pair (.i .i64) (.pair (.i .i64) .bo)))))) (.one (.fn [(.pair (.i .i64) (.pair (.i .i64) (.pair (.i .i64) (.pair (.i .i64) .bo))))] .bo)))
def JT (d:(List (Int×Int×Int×Int×Bool))×((Int×Int×Int×Int×Bool->Prop)×(Int×Int×Int×Int×Bool->Bool))):Prop:=d.1.length<=1000000/\∀ x∈d.1,d.2.1 x
def Z1 (d:(List (Int×Int×Int×Int×Bool))×((Int×Int×Int×Int×Bool->Prop)×(Int×Int×Int×Int×Bool->Bool))):SV:=.val .bo (d.1.any d.2.2)
def Z0 (d:(List (Int×Int×Int×Int×Bool))×((Int×Int×Int×Int×Bool->Prop)×(Int×Int×Int×Int×Bool->Bool))):List OB:=[]
def QD:CSp:=Y9 Z5 JT Z1 Z0
def Qg (l:List (Int×Int×Int×Int×Bool)) (p:(Int×Int×Int×Int×Bool->Prop)×(Int×Int×Int×Int×Bool->Bool)):Prop :=
 (l.length<=1000000/\∀ x∈l,(λ(x1:Int×Int×Int×Int×Bool)=>p.1 (x1.1,(x1.2.1,(x1.2.2.1,(x1.2.2.2.1,x1.2.2.2.2))))) x)/\((decide ((Om l (λ(x1:Int×Int×Int×Int×Bool)=>(p.2 (x1.1,(x1.2.1,(x1.2.2.1,(x1.2.2.2.1,x1.2.2.2.2)))))))>=(0:Int)))=(l.any p.2)/\(True))
def Z6:Cx:=⟨[],[(98,QF)],9,[],0,[],[],[],[],false,[],[],[],[]⟩
def J_ (l:List (Int×Int×Int×Int×Bool)) (p:(Int×Int×Int×Int×Bool->Prop)×(Int×Int×Int×Int×Bool->Bool)):List (Nat×LoopAnn):=[]
theorem JY (d:(List (Int×Int×Int×Int×Bool))×((Int×Int×Int×Int×Bool->Prop)×(Int×Int×Int×Int×Bool->Bool))):gwp (Z6) (J_ d.1 d.2) c79 0 (Yh [.tmp 4] (Z1 d) (Z0 d)) (Qo 9 (AL.can Z5 d))=Qg d.1 d.2:=by kernel_rfl
abbrev JZ:Prop:=OkC Tryz.prog 79 QD
theorem JX (h:∀ (l:List (Int×Int×Int×Int×Bool)) (p:(Int×Int×Int×Int×Bool->Prop)×(Int×Int×Int×Int×Bool->Bool)),(l.length<=1000000/\∀ x∈l,p.1 x)->Qg l p):OkC Tryz.prog 79 QD :=
 Qu Z7n mixed (C:=Z6) (V:=λ(d:(List (Int×Int×Int×Int×Bool))×((Int×Int×Int×Int×Bool->Prop)×(Int×Int×Int×Int×Bool->Bool)))=>Qg d.1 d.2) ⟨(.cons XC .nil),XsOk.nil,ItsOk.nil,YlOk.nil,IysOk.nil,XfOk.nil⟩ (JY) λd hp=>h d.1 d.2 hp
theorem JW:JZ:=JX λl p hp=>by simp only[Qg];exact⟨hp,O1 l p.2,trivial⟩
def ZQ:AL (Unit):=(.one .nilS)
def W2 (d:Unit):Prop:=True
def ZG (d:Unit):SV:=.lst 0
def ZF (d:Unit):List OB:=[.lst 43 (.pair (.i .i64) (.pair (.i .i64) (.pair (.i .i64) (.pair (.i .i64) .bo)))) ([]:List Dmg) true]
def Qx:CSp:=Y9 ZQ W2 ZG ZF
def Qs :Prop :=
 (True/\((([]:List Dmg)=[]/\true=true)/\True))
def ZP:Cx:=⟨[],[],8,[3000004],0,[],[],[],[],false,[],[],[4],[]⟩
def Wa :List (Nat×LoopAnn):=[]
theorem Wd (d:Unit):gwp (ZP) (Wa ) c51 0 (Yh [.tmp 2] (ZG d) (ZF d)) (Qo 8 (AL.can ZQ d))=Qs :=by kernel_rfl
abbrev Wm:Prop:=OkC Tryz.prog 51 Qx
theorem Wo (h:(True)->Qs ):OkC Tryz.prog 51 Qx :=
 Qu Z4j mixed (C:=ZP) (V:=λ(d:Unit)=>Qs ) ⟨.nil,XsOk.nil,ItsOk.nil,YlOk.nil,IysOk.nil,XfOk.nil⟩ (Wd) λd hp=>h  hp
theorem ZM:Wm:=Wo λ_=>by unfold Qs;(try delta lI gD sT I64 Q1 pj8 pj4);and_intros<;>first|rfl|trivial
def Zj:AL (List (Int×Int×Int×Int×Bool)):=(.one (.k (.list (.pair (.i .i64) (.pair (.i .i64) (.pair (.i .i64) (.pair (.i .i64) .bo)))))))
def X4 (d:List (Int×Int×Int×Int×Bool)):Prop:=d≠[]/\d.length<=110
def Z8 (d:List (Int×Int×Int×Int×Bool)):SV:=.lst 0
def Z7 (d:List (Int×Int×Int×Int×Bool)):List OB:=[.lst 43 (.pair (.i .i64) (.pair (.i .i64) (.pair (.i .i64) (.pair (.i .i64) .bo)))) d false]
def Ql:CSp:=Y9 Zj X4 Z8 Z7
def Qi (l:List (Int×Int×Int×Int×Bool)):Prop :=
 (l≠[])/\(false=true ->
  (True/\((l=[]/\false=true)/\True))) /\
 (false=false ->
  (((List.length ([]:List (Int×Int×Int×Int×Bool)))+(List.length l))*40<=70368744177664)/\(True/\(((([]:List (Int×Int×Int×Int×Bool))++l)=l/\((List.isEmpty l)&&false)=false)/\True)))
def Zh:Cx:=⟨[(43,(.pair (.i .i64) (.pair (.i .i64) (.pair (.i .i64) (.pair (.i .i64) .bo)))))],[],8,[],0,[],[],[],[],false,[],[],[],[]⟩
def Xh (l:List (Int×Int×Int×Int×Bool)):List (Nat×LoopAnn):=[]
theorem Xc (d:List (Int×Int×Int×Int×Bool)):gwp (Zh) (Xh d) c51 0 (Yh [.tmp 2] (Z8 d) (Z7 d)) (Qo 8 (AL.can Zj d))=Qi d:=by kernel_rfl
abbrev Xb:Prop:=OkC Tryz.prog 51 Ql
theorem Xd (h:∀ (l:List (Int×Int×Int×Int×Bool)),(l≠[]/\l.length<=110)->Qi l):OkC Tryz.prog 51 Ql :=
 Qu Z4j mixed (C:=Zh) (V:=λ(d:List (Int×Int×Int×Int×Bool))=>Qi d) ⟨.nil,XsOk.nil,ItsOk.nil,YlOk.nil,IysOk.nil,XfOk.nil⟩ (Xc) λd hp=>h d hp
theorem Zi:Xb:=Xd λl h=>by unfold Qi;(try delta lI gD sT I64 Q1 pj8 pj4);refine⟨h.1,λh=>(by cases h),λ_=>⟨by have:=h.2;simp only[List.length_nil];omega,?_⟩⟩;and_intros<;>first|rfl|trivial|simp
def Mx:AL (Int×List Int×Int×List Int):=(.one (.agg (.cons (.k (.i .i64)) (.cons (.k (.list (.i .i64))) (.cons (.k (.i .i64)) (.one (.k (.list (.i .i64)))))))))
def TG (d:Int×List Int×Int×List Int):Prop:=d.2.1.length<=110/\d.2.2.2.length<=110
def M5 (d:Int×List Int×Int×List Int):SV:=.val (.i .i64) (Q7 d.1 d.2.1 d.2.2.1 d.2.2.2)
def Nx (d:Int×List Int×Int×List Int):List OB:=[]
def K7:CSp:=Y9 Mx TG M5 Nx
def Yq (hk:Int) (lw:List Int) (hd:Int) (rows:List Int):Prop :=
 (lw.length<=1000000)/\(((Wu hk lw) != (0:Int))=true ->
  ((Wu hk lw)=(Q7 hk lw hd rows)/\(True))) /\
 (((Wu hk lw) != (0:Int))=false ->
  (rows.length<=1000000)/\(((Zb hd rows) != (0:Int))=true ->
   ((Zb hd rows)=(Q7 hk lw hd rows)/\(True))) /\
  (((Zb hd rows) != (0:Int))=false ->
   ((hk != hd)=true ->
    ((4:Int)=(Q7 hk lw hd rows)/\(True))) /\
   ((hk != hd)=false ->
    ((0:Int)=(Q7 hk lw hd rows)/\(True)))))
def Mv:Cx:=⟨[],[(46,D6),(47,Ni)],24,[],0,[],[],[],[],false,[],[],[],[]⟩
def R_ (hk:Int) (lw:List Int) (hd:Int) (rows:List Int):List (Nat×LoopAnn):=[]
theorem RD (d:Int×List Int×Int×List Int):gwp (Mv) (R_ d.1 d.2.1 d.2.2.1 d.2.2.2) c35 0 (Yh [.tmp 2] (M5 d) (Nx d)) (Qo 24 (AL.can Mx d))=Yq d.1 d.2.1 d.2.2.1 d.2.2.2:=by kernel_rfl
abbrev Rg:Prop:=OkC Tryz.prog 35 K7
theorem RR (h:∀ (hk:Int) (lw:List Int) (hd:Int) (rows:List Int),(lw.length<=110/\rows.length<=110)->Yq hk lw hd rows):OkC Tryz.prog 35 K7 :=
 Qu Z7q mixed (C:=Mv) (V:=λ(d:Int×List Int×Int×List Int)=>Yq d.1 d.2.1 d.2.2.1 d.2.2.2) ⟨(.cons Li (.cons PL .nil)),XsOk.nil,ItsOk.nil,YlOk.nil,IysOk.nil,XfOk.nil⟩ (RD) λd hp=>h d.1 d.2.1 d.2.2.1 d.2.2.2 hp
theorem Mo:Rg:=RR λhk lw hd rows h=>by
 unfold Yq;(try delta lI gD sT I64 Q1 pj8 pj4);simp only[bne_iff_ne,bne_eq_false_iff_eq,ne_eq];refine⟨by omega,λh1=>?_,λh1=>⟨by omega,λh2=>?_,λh2=>⟨λh3=>?_,λh3=>?_⟩⟩⟩
 .have:Q7 hk lw hd rows=Wu hk lw:=by unfold Q7;rw[z2 h1]
  rw[this];and_intros<;>first|rfl|trivial
 .have:Q7 hk lw hd rows=Zb hd rows:=by unfold Q7;rw[z0 (by omega),z2 h2]
  rw[this];and_intros<;>first|rfl|trivial
 .have:Q7 hk lw hd rows=4:=by unfold Q7;rw[z0 (by omega),z0 (by omega),z2 (by omega)]
  rw[this];and_intros<;>first|rfl|trivial
 .have:Q7 hk lw hd rows=0:=by unfold Q7;rw[z0 (by omega),z0 (by omega),z0 (by omega)]
  rw[this];and_intros<;>first|rfl|trivial
def VG:AL ((Int×List Int×Int×List Int)×Int×Int×Int×Int×Bool):=(.cons (.agg (.cons (.k (.i .i64)) (.cons (.k (.list (.i .i64))) (.cons (.k (.i .i64)) (.one (.k (.list (.i .i64)))))))) (.one (.agg (.cons (.k (.i .i64)) (.cons (.k (.i .i64)) (.cons (.k (.i .i64)) (.cons (.k (.i .i64)) (.one (.k .bo)))))))))
def D4 (d:(Int×List Int×Int×List Int)×Int×Int×Int×Int×Bool):Prop:=d.1.2.1.length<=110/\d.1.2.2.2.length<=110/\1<=d.1.2.2.1/\d.1.2.2.1<=24
def KW (d:(Int×List Int×Int×List Int)×Int×Int×Int×Int×Bool):SV:=.val .bo (P3 d.1.2.2.1 d.1.2.2.2 d.1.2.1 (d.2.1,(d.2.2.1,(d.2.2.2.1,(d.2.2.2.2.1,d.2.2.2.2.2)))))
def Vc (d:(Int×List Int×Int×List Int)×Int×Int×Int×Int×Bool):List OB:=[]
def YP:CSp:=Y9 VG D4 KW Vc
def XJ (hk:Int) (lw:List Int) (hd:Int) (rows:List Int) (dk:Int) (dp:Int) (dh:Int) (dw:Int) (du:Bool):Prop :=
 ∀ (y1:Bool),y1=(dk==(1:Int))->(y1=true ->
  ∀ (y2:Bool),y2=((dk==dk)&&((dp==dp)&&((dh==dh)&&((dw==(0:Int))&&(du==false)))))->∀ (y3:Bool),y3=(true&&y2)->(y3=true->InK .i64 ((lI rows)-(1:Int)))/\(y3=true->True)/\(y3=true->[dp].length<=1000000)/\∀ (y4:Bool),y4=(y3&&(!([dp].any λn=>decide (n<(0:Int))||decide (((lI rows)-(1:Int))<n))))->(y4=true->InK .i64 (hd-(1:Int)))/\(y4=true->True)/\(y4=true->[dh].length<=1000000)/\∀ (y5:Bool),y5=(y4&&(!([dh].any λn=>decide (n<(0:Int))||decide ((hd-(1:Int))<n))))->(y5=true->InK .i64 ((lI lw)-(1:Int)))/\(y5=true->True)/\(y5=true->[dw].length<=1000000)/\∀ (y6:Bool),y6=(y5&&(!([dw].any λn=>decide (n<(0:Int))||decide (((lI lw)-(1:Int))<n))))->(y6=(P3 hd rows lw (dk,(dp,(dh,(dw,du)))))/\(True))) /\
 (y1=false ->
  ∀ (y7:Bool),y7=(dk==(2:Int))->(y7=true ->
   ∀ (y8:Bool),y8=((dk==dk)&&((dp==(0:Int))&&((dh==dh)&&((dw==(0:Int))&&(du==du)))))->∀ (y9:Bool),y9=(true&&y8)->(y9=true->InK .i64 ((lI rows)-(1:Int)))/\(y9=true->True)/\(y9=true->[dp].length<=1000000)/\∀ (oq:Bool),oq=(y9&&(!([dp].any λn=>decide (n<(0:Int))||decide (((lI rows)-(1:Int))<n))))->(oq=true->InK .i64 (hd-(1:Int)))/\(oq=true->True)/\(oq=true->[dh].length<=1000000)/\∀ (ot:Bool),ot=(oq&&(!([dh].any λn=>decide (n<(0:Int))||decide ((hd-(1:Int))<n))))->(ot=true->InK .i64 ((lI lw)-(1:Int)))/\(ot=true->True)/\(ot=true->[dw].length<=1000000)/\∀ (sL:Bool),sL=(ot&&(!([dw].any λn=>decide (n<(0:Int))||decide (((lI lw)-(1:Int))<n))))->(sL=(P3 hd rows lw (dk,(dp,(dh,(dw,du)))))/\(True))) /\
  (y7=false ->
   ∀ (ou:Bool),ou=(dk==(3:Int))->(ou=true ->
    (ou=true ->
     ∀ (sM:Bool),sM=((dk==dk)&&((dp==dp)&&((dh==(0:Int))&&((dw==(0:Int))&&(du==false)))))->∀ (ov:Bool),ov=(true&&sM)->(ov=true->InK .i64 ((lI rows)-(1:Int)))/\(ov=true->True)/\(ov=true->[dp].length<=1000000)/\∀ (ox:Bool),ox=(ov&&(!([dp].any λn=>decide (n<(0:Int))||decide (((lI rows)-(1:Int))<n))))->(ox=true->InK .i64 (hd-(1:Int)))/\(ox=true->True)/\(ox=true->[dh].length<=1000000)/\∀ (oy:Bool),oy=(ox&&(!([dh].any λn=>decide (n<(0:Int))||decide ((hd-(1:Int))<n))))->(oy=true->InK .i64 ((lI lw)-(1:Int)))/\(oy=true->True)/\(oy=true->[dw].length<=1000000)/\∀ (sN:Bool),sN=(oy&&(!([dw].any λn=>decide (n<(0:Int))||decide (((lI lw)-(1:Int))<n))))->(sN=(P3 hd rows lw (dk,(dp,(dh,(dw,du)))))/\(True))) /\
    (ou=false ->
     ∀ (rr:Bool),rr=(dk==(5:Int))->(rr=true ->
      ∀ (sO:Bool),sO=((dk==dk)&&((dp==(0:Int))&&((dh==(0:Int))&&((dw==dw)&&(du==false)))))->∀ (oz:Bool),oz=(true&&sO)->(oz=true->InK .i64 ((lI rows)-(1:Int)))/\(oz=true->True)/\(oz=true->[dp].length<=1000000)/\∀ (oA:Bool),oA=(oz&&(!([dp].any λn=>decide (n<(0:Int))||decide (((lI rows)-(1:Int))<n))))->(oA=true->InK .i64 (hd-(1:Int)))/\(oA=true->True)/\(oA=true->[dh].length<=1000000)/\∀ (oB:Bool),oB=(oA&&(!([dh].any λn=>decide (n<(0:Int))||decide ((hd-(1:Int))<n))))->(oB=true->InK .i64 ((lI lw)-(1:Int)))/\(oB=true->True)/\(oB=true->[dw].length<=1000000)/\∀ (sP:Bool),sP=(oB&&(!([dw].any λn=>decide (n<(0:Int))||decide (((lI lw)-(1:Int))<n))))->(sP=(P3 hd rows lw (dk,(dp,(dh,(dw,du)))))/\(True))) /\
     (rr=false ->
      ∀ (sQ:Bool),sQ=((dk==dk)&&((dp==(0:Int))&&((dh==(0:Int))&&((dw==(0:Int))&&(du==false)))))->∀ (oC:Bool),oC=(false&&sQ)->(oC=true->InK .i64 ((lI rows)-(1:Int)))/\(oC=true->True)/\(oC=true->[dp].length<=1000000)/\∀ (oD:Bool),oD=(oC&&(!([dp].any λn=>decide (n<(0:Int))||decide (((lI rows)-(1:Int))<n))))->(oD=true->InK .i64 (hd-(1:Int)))/\(oD=true->True)/\(oD=true->[dh].length<=1000000)/\∀ (oE:Bool),oE=(oD&&(!([dh].any λn=>decide (n<(0:Int))||decide ((hd-(1:Int))<n))))->(oE=true->InK .i64 ((lI lw)-(1:Int)))/\(oE=true->True)/\(oE=true->[dw].length<=1000000)/\∀ (sR:Bool),sR=(oE&&(!([dw].any λn=>decide (n<(0:Int))||decide (((lI lw)-(1:Int))<n))))->(sR=(P3 hd rows lw (dk,(dp,(dh,(dw,du)))))/\(True))))) /\
   (ou=false ->
    ∀ (ru:Bool),ru=(dk==(4:Int))->(ru=true ->
     ∀ (sS:Bool),sS=((dk==dk)&&((dp==dp)&&((dh==(0:Int))&&((dw==(0:Int))&&(du==false)))))->∀ (oF:Bool),oF=(true&&sS)->(oF=true->InK .i64 ((lI rows)-(1:Int)))/\(oF=true->True)/\(oF=true->[dp].length<=1000000)/\∀ (oG:Bool),oG=(oF&&(!([dp].any λn=>decide (n<(0:Int))||decide (((lI rows)-(1:Int))<n))))->(oG=true->InK .i64 (hd-(1:Int)))/\(oG=true->True)/\(oG=true->[dh].length<=1000000)/\∀ (oH:Bool),oH=(oG&&(!([dh].any λn=>decide (n<(0:Int))||decide ((hd-(1:Int))<n))))->(oH=true->InK .i64 ((lI lw)-(1:Int)))/\(oH=true->True)/\(oH=true->[dw].length<=1000000)/\∀ (kg:Bool),kg=(oH&&(!([dw].any λn=>decide (n<(0:Int))||decide (((lI lw)-(1:Int))<n))))->(kg=(P3 hd rows lw (dk,(dp,(dh,(dw,du)))))/\(True))) /\
    (ru=false ->
     ∀ (jx:Bool),jx=(dk==(5:Int))->(jx=true ->
      ∀ (ki:Bool),ki=((dk==dk)&&((dp==(0:Int))&&((dh==(0:Int))&&((dw==dw)&&(du==false)))))->∀ (gN:Bool),gN=(true&&ki)->(gN=true->InK .i64 ((lI rows)-(1:Int)))/\(gN=true->True)/\(gN=true->[dp].length<=1000000)/\∀ (gO:Bool),gO=(gN&&(!([dp].any λn=>decide (n<(0:Int))||decide (((lI rows)-(1:Int))<n))))->(gO=true->InK .i64 (hd-(1:Int)))/\(gO=true->True)/\(gO=true->[dh].length<=1000000)/\∀ (gP:Bool),gP=(gO&&(!([dh].any λn=>decide (n<(0:Int))||decide ((hd-(1:Int))<n))))->(gP=true->InK .i64 ((lI lw)-(1:Int)))/\(gP=true->True)/\(gP=true->[dw].length<=1000000)/\∀ (jy:Bool),jy=(gP&&(!([dw].any λn=>decide (n<(0:Int))||decide (((lI lw)-(1:Int))<n))))->(jy=(P3 hd rows lw (dk,(dp,(dh,(dw,du)))))/\(True))) /\
     (jx=false ->
      ∀ (oI:Bool),oI=((dk==dk)&&((dp==(0:Int))&&((dh==(0:Int))&&((dw==(0:Int))&&(du==false)))))->∀ (kj:Bool),kj=(false&&oI)->(kj=true->InK .i64 ((lI rows)-(1:Int)))/\(kj=true->True)/\(kj=true->[dp].length<=1000000)/\∀ (kn:Bool),kn=(kj&&(!([dp].any λn=>decide (n<(0:Int))||decide (((lI rows)-(1:Int))<n))))->(kn=true->InK .i64 (hd-(1:Int)))/\(kn=true->True)/\(kn=true->[dh].length<=1000000)/\∀ (gQ:Bool),gQ=(kn&&(!([dh].any λn=>decide (n<(0:Int))||decide ((hd-(1:Int))<n))))->(gQ=true->InK .i64 ((lI lw)-(1:Int)))/\(gQ=true->True)/\(gQ=true->[dw].length<=1000000)/\∀ (oJ:Bool),oJ=(gQ&&(!([dw].any λn=>decide (n<(0:Int))||decide (((lI lw)-(1:Int))<n))))->(oJ=(P3 hd rows lw (dk,(dp,(dh,(dw,du)))))/\(True)))))))
def Vw:Cx:=⟨[(3,(.i .i64))],[(34,Kl)],80,[],0,[],[],[],[],true,[],[],[],[]⟩
def Bm (hk:Int) (lw:List Int) (hd:Int) (rows:List Int) (dk:Int) (dp:Int) (dh:Int) (dw:Int) (du:Bool):List (Nat×LoopAnn):=[]
theorem Bh (d:(Int×List Int×Int×List Int)×Int×Int×Int×Int×Bool):gwp (Vw) (Bm d.1.1 d.1.2.1 d.1.2.2.1 d.1.2.2.2 d.2.1 d.2.2.1 d.2.2.2.1 d.2.2.2.2.1 d.2.2.2.2.2) c78 0 (Yh [.tmp 4] (KW d) (Vc d)) (Qo 80 (AL.can VG d))=XJ d.1.1 d.1.2.1 d.1.2.2.1 d.1.2.2.2 d.2.1 d.2.2.1 d.2.2.2.1 d.2.2.2.2.1 d.2.2.2.2.2:=by kernel_rfl
abbrev Bq:Prop:=OkC Tryz.prog 78 YP
theorem B8 (h:∀ (hk:Int) (lw:List Int) (hd:Int) (rows:List Int) (dk:Int) (dp:Int) (dh:Int) (dw:Int) (du:Bool),(lw.length<=110/\rows.length<=110/\1<=hd/\hd<=24)->XJ hk lw hd rows dk dp dh dw du):OkC Tryz.prog 78 YP :=
 Qu Z9p mixed (C:=Vw) (V:=λ(d:(Int×List Int×Int×List Int)×Int×Int×Int×Int×Bool)=>XJ d.1.1 d.1.2.1 d.1.2.2.1 d.1.2.2.2 d.2.1 d.2.2.1 d.2.2.2.1 d.2.2.2.2.1 d.2.2.2.2.2) ⟨(.cons Nw .nil),XsOk.nil,ItsOk.nil,YlOk.nil,IysOk.nil,XfOk.nil⟩ (Bh) λd hp=>h d.1.1 d.1.2.1 d.1.2.2.1 d.1.2.2.2 d.2.1 d.2.2.1 d.2.2.2.1 d.2.2.2.2.1 d.2.2.2.2.2 hp
theorem Ba:Bq:=B8 λhk lw hd rows dk dp dh dw du h=>by
 unfold XJ;(try delta lI gD sT I64 Q1 pj8 pj4);have e:∀ n a b:Int,(decide (n<a)||decide (b<n))=!inI n a b:=λn a b=>(nI n a b).symm;simp only[Qm,List.any_cons,List.any_nil,xy,zr,List.length_nil,e,Bool.not_not,beq_self_eq_true,Bool.true_and,Bool.false_and]
 repeat' first
  |(refine And.intro ?_ ?_)
  |(intro _)
 all_goals first
  |trivial
  |omega
  |(subst_vars;unfold P3;generalize inI dp 0 _=a;generalize inI dh 0 _=b;generalize inI dw 0 _=c;cases du<;>cases a<;>cases b<;>cases c<;>simp_all (config:={decide:=true}) [inI]<;>omega)
def DU:AL ((Int×Int×Int×Int×Bool)×Int×List Int×Int×List Int):=(.cons (.agg (.cons (.k (.i .i64)) (.cons (.k (.i .i64)) (.cons (.k (.i .i64)) (.cons (.k (.i .i64)) (.one (.k .bo))))))) (.one (.ptr (.cons (.k (.i .i64)) (.cons (.k (.list (.i .i64))) (.cons (.k (.i .i64)) (.one (.k (.list (.i .i64))))))))))
def SZ (d:(Int×Int×Int×Int×Bool)×Int×List Int×Int×List Int):Prop:=d.2.2.1.length<=110/\d.2.2.2.2.length<=110/\1<=d.2.2.2.1/\d.2.2.2.1<=24
def GJ (d:(Int×Int×Int×Int×Bool)×Int×List Int×Int×List Int):SV:=.val .bo (!P3 d.2.2.2.1 d.2.2.2.2 d.2.2.1 (d.1.1,(d.1.2.1,(d.1.2.2.1,(d.1.2.2.2.1,d.1.2.2.2.2)))))
def GA (d:(Int×Int×Int×Int×Bool)×Int×List Int×Int×List Int):List OB:=[]
def NR:CSp:=Y9 DU SZ GJ GA
def Kr (dk:Int) (dp:Int) (dh:Int) (dw:Int) (du:Bool) (hk:Int) (lw:List Int) (hd:Int) (rows:List Int):Prop :=
 (lw.length<=110/\rows.length<=110/\1<=hd/\hd<=24)/\((!(P3 hd rows lw (dk,(dp,(dh,(dw,du))))))=(!P3 hd rows lw (dk,(dp,(dh,(dw,du)))))/\(True))
def Dw:Cx:=⟨[],[(78,YP)],9,[],0,[],[],[],[],false,[],[],[],[]⟩
def C4 (dk:Int) (dp:Int) (dh:Int) (dw:Int) (du:Bool) (hk:Int) (lw:List Int) (hd:Int) (rows:List Int):List (Nat×LoopAnn):=[]
theorem C7 (d:(Int×Int×Int×Int×Bool)×Int×List Int×Int×List Int):gwp (Dw) (C4 d.1.1 d.1.2.1 d.1.2.2.1 d.1.2.2.2.1 d.1.2.2.2.2 d.2.1 d.2.2.1 d.2.2.2.1 d.2.2.2.2) c77 0 (Yh [.tmp 3] (GJ d) (GA d)) (Qo 9 (AL.can DU d))=Kr d.1.1 d.1.2.1 d.1.2.2.1 d.1.2.2.2.1 d.1.2.2.2.2 d.2.1 d.2.2.1 d.2.2.2.1 d.2.2.2.2:=by kernel_rfl
abbrev C8:Prop:=OkC Tryz.prog 77 NR
theorem LQ (h:∀ (dk:Int) (dp:Int) (dh:Int) (dw:Int) (du:Bool) (hk:Int) (lw:List Int) (hd:Int) (rows:List Int),(lw.length<=110/\rows.length<=110/\1<=hd/\hd<=24)->Kr dk dp dh dw du hk lw hd rows):OkC Tryz.prog 77 NR :=
 Qu Z8b mixed (C:=Dw) (V:=λ(d:(Int×Int×Int×Int×Bool)×Int×List Int×Int×List Int)=>Kr d.1.1 d.1.2.1 d.1.2.2.1 d.1.2.2.2.1 d.1.2.2.2.2 d.2.1 d.2.2.1 d.2.2.2.1 d.2.2.2.2) ⟨(.cons Ba .nil),XsOk.nil,ItsOk.nil,YlOk.nil,IysOk.nil,XfOk.nil⟩ (C7) λd hp=>h d.1.1 d.1.2.1 d.1.2.2.1 d.1.2.2.2.1 d.1.2.2.2.2 d.2.1 d.2.2.1 d.2.2.2.1 d.2.2.2.2 hp
theorem C9:C8:=LQ λdk dp dh dw du hk lw hd rows h=>by unfold Kr;(try delta lI gD sT I64 Q1 pj8 pj4);and_intros<;>first|omega|rfl|trivial
def Pr:AL ((Int×List Int×Int×List Int)×List (Int×Int×Int×Int×Bool)):=(.cons (.agg (.cons (.k (.i .i64)) (.cons (.k (.list (.i .i64))) (.cons (.k (.i .i64)) (.one (.k (.list (.i .i64)))))))) (.one (.k (.list (.pair (.i .i64) (.pair (.i .i64) (.pair (.i .i64) (.pair (.i .i64) .bo))))))))
def CW (d:(Int×List Int×Int×List Int)×List (Int×Int×Int×Int×Bool)):Prop:=d.1.2.1.length<=110/\d.1.2.2.2.length<=110/\d.2.length<=1000
def Hy (d:(Int×List Int×Int×List Int)×List (Int×Int×Int×Int×Bool)):SV:=.val (.i .i64) (YD d.1.1 d.1.2.1 d.1.2.2.1 d.1.2.2.2 d.2)
def BL (d:(Int×List Int×Int×List Int)×List (Int×Int×Int×Int×Bool)):List OB:=[]
def Dt:CSp:=Y9 Pr CW Hy BL
def U4 (hk:Int) (lw:List Int) (hd:Int) (rows:List Int) (ds:List (Int×Int×Int×Int×Bool)):Prop :=
 (lw.length<=110/\rows.length<=110)/\(((Q7 hk lw hd rows) != (0:Int))=true ->
  ((Q7 hk lw hd rows)=(YD hk lw hd rows ds)/\(True))) /\
 (((Q7 hk lw hd rows) != (0:Int))=false ->
  ((decide ((lI ds) > (100:Int)))=true ->
   ((5:Int)=(YD hk lw hd rows ds)/\(True))) /\
  ((decide ((lI ds) > (100:Int)))=false ->
   (ds.length<=1000000/\∀ x∈ds,(λ(x1:Int×Int×Int×Int×Bool)=>lw.length<=110/\rows.length<=110/\1<=hd/\hd<=24) x)/\((ds.any (λ(x1:Int×Int×Int×Int×Bool)=>(!P3 hd rows lw (x1.1,(x1.2.1,(x1.2.2.1,(x1.2.2.2.1,x1.2.2.2.2)))))))=true ->
    ((2:Int)=(YD hk lw hd rows ds)/\(True))) /\
   ((ds.any (λ(x1:Int×Int×Int×Int×Bool)=>(!P3 hd rows lw (x1.1,(x1.2.1,(x1.2.2.1,(x1.2.2.2.1,x1.2.2.2.2)))))))=false ->
    ((0:Int)=(YD hk lw hd rows ds)/\(True)))))
def PF:Cx:=⟨[],[(35,K7),(79,QD),(77,NR)],21,[],0,[],[],[],[],false,[],[],[],[]⟩
def Fz (hk:Int) (lw:List Int) (hd:Int) (rows:List Int) (ds:List (Int×Int×Int×Int×Bool)):List (Nat×LoopAnn):=[]
theorem Ib (d:(Int×List Int×Int×List Int)×List (Int×Int×Int×Int×Bool)):gwp (PF) (Fz d.1.1 d.1.2.1 d.1.2.2.1 d.1.2.2.2 d.2) c49 0 (Yh [.tmp 4] (Hy d) (BL d)) (Qo 21 (AL.can Pr d))=U4 d.1.1 d.1.2.1 d.1.2.2.1 d.1.2.2.2 d.2:=by kernel_rfl
abbrev FI:Prop:=OkC Tryz.prog 49 Dt
theorem Ic (h:∀ (hk:Int) (lw:List Int) (hd:Int) (rows:List Int) (ds:List (Int×Int×Int×Int×Bool)),(lw.length<=110/\rows.length<=110/\ds.length<=1000)->U4 hk lw hd rows ds):OkC Tryz.prog 49 Dt :=
 Qu Z68 mixed (C:=PF) (V:=λ(d:(Int×List Int×Int×List Int)×List (Int×Int×Int×Int×Bool))=>U4 d.1.1 d.1.2.1 d.1.2.2.1 d.1.2.2.2 d.2) ⟨(.cons Mo (.cons JW (.cons C9 .nil))),XsOk.nil,ItsOk.nil,YlOk.nil,IysOk.nil,XfOk.nil⟩ (Ib) λd hp=>h d.1.1 d.1.2.1 d.1.2.2.1 d.1.2.2.2 d.2 hp
theorem FX:FI:=Ic λhk lw hd rows ds h=>by
 obtain⟨g1,g2,g3⟩:lw.length<=110/\rows.length<=110/\ds.length<=1000:=by omega
 unfold U4;(try delta lI gD sT I64 Q1 pj8 pj4);simp only[bne_iff_ne,bne_eq_false_iff_eq,ne_eq,z6,zy];have hh:Q7 hk lw hd rows=0->1<=hd/\hd<=24:=λe=>by
  unfold Q7 at e;split at e
  .omega
  .split at e
   .omega
   .rename_i _ e2;have e3:Zb hd rows=0:=by omega
    unfold Zb at e3;split at e3
    .cases e3
    .rename_i e4;have e5:inI hd 1 24=true:=by simpa using e4
     simpa [inI] using e5
 refine⟨⟨g1,g2⟩,λh1=>?_,λh1=>⟨λh2=>?_,λh2=>⟨⟨by omega,λ_ _=>⟨g1,g2,hh (by omega)⟩⟩,λh3=>?_,λh3=>?_⟩⟩⟩
 .have:YD hk lw hd rows ds=Q7 hk lw hd rows:=by unfold YD;rw[z2 h1]
  rw[this];and_intros<;>first|rfl|trivial
 .have:YD hk lw hd rows ds=5:=by unfold YD;rw[z0 (by omega),z2 (by omega)]
  rw[this];and_intros<;>first|rfl|trivial
 .have:YD hk lw hd rows ds=2:=by unfold YD;rw[z0 (by omega),z0 (by omega),z2 h3]
  rw[this];and_intros<;>first|rfl|trivial
 .have:YD hk lw hd rows ds=0:=by unfold YD;rw[z0 (by omega),z0 (by omega),z0 (by rw[show (ds.any λd=>!P3 hd rows lw d)=false from h3];decide)]
  rw[this];and_intros<;>first|rfl|trivial
def RV:AL ((Int×List Int×Int×List Int)×(List (Int×Int×Int×Int×Bool))×Int):=(.cons (.agg (.cons (.k (.i .i64)) (.cons (.k (.list (.i .i64))) (.cons (.k (.i .i64)) (.one (.k (.list (.i .i64)))))))) (.cons (.k (.list (.pair (.i .i64) (.pair (.i .i64) (.pair (.i .i64) (.pair (.i .i64) .bo)))))) (.one (.k (.i .i64)))))
def F7 (d:(Int×List Int×Int×List Int)×(List (Int×Int×Int×Int×Bool))×Int):Prop:=d.1.2.1.length<=110/\d.1.2.2.2.length<=110/\d.2.1.length<=1000
def Px (d:(Int×List Int×Int×List Int)×(List (Int×Int×Int×Int×Bool))×Int):SV:=.val (.i .i64) (JM d.1.1 d.1.2.1 d.1.2.2.1 d.1.2.2.2 d.2.1 d.2.2)
def Pn (d:(Int×List Int×Int×List Int)×(List (Int×Int×Int×Int×Bool))×Int):List OB:=[]
def Mh:CSp:=Y9 RV F7 Px Pn
def N3 (hk:Int) (lw:List Int) (hd:Int) (rows:List Int) (ds:List (Int×Int×Int×Int×Bool)) (n:Int):Prop :=
 (lw.length<=110/\rows.length<=110/\ds.length<=1000)/\(((YD hk lw hd rows ds) != (0:Int))=true ->
  ((YD hk lw hd rows ds)=(JM hk lw hd rows ds n)/\(True))) /\
 (((YD hk lw hd rows ds) != (0:Int))=false ->
  ([n].length<=1000000)/\((!(!([n].any λn=>decide (n<(1:Int))||decide ((120:Int)<n))))=true ->
   ((3:Int)=(JM hk lw hd rows ds n)/\(True))) /\
  ((!(!([n].any λn=>decide (n<(1:Int))||decide ((120:Int)<n))))=false ->
   ((0:Int)=(JM hk lw hd rows ds n)/\(True))))
def RA:Cx:=⟨[(3,(.i .i64))],[(49,Dt),(34,Kl)],18,[],0,[],[],[],[],false,[],[],[],[]⟩
def OF (hk:Int) (lw:List Int) (hd:Int) (rows:List Int) (ds:List (Int×Int×Int×Int×Bool)) (n:Int):List (Nat×LoopAnn):=[]
theorem Q02 (d:(Int×List Int×Int×List Int)×(List (Int×Int×Int×Int×Bool))×Int):gwp (RA) (OF d.1.1 d.1.2.1 d.1.2.2.1 d.1.2.2.2 d.2.1 d.2.2) c26 0 (Yh [.tmp 6] (Px d) (Pn d)) (Qo 18 (AL.can RV d))=N3 d.1.1 d.1.2.1 d.1.2.2.1 d.1.2.2.2 d.2.1 d.2.2:=by kernel_rfl
abbrev Q0b:Prop:=OkC Tryz.prog 26 Mh
theorem Ob (h:∀ (hk:Int) (lw:List Int) (hd:Int) (rows:List Int) (ds:List (Int×Int×Int×Int×Bool)) (n:Int),(lw.length<=110/\rows.length<=110/\ds.length<=1000)->N3 hk lw hd rows ds n):OkC Tryz.prog 26 Mh :=
 Qu Z8g mixed (C:=RA) (V:=λ(d:(Int×List Int×Int×List Int)×(List (Int×Int×Int×Int×Bool))×Int)=>N3 d.1.1 d.1.2.1 d.1.2.2.1 d.1.2.2.2 d.2.1 d.2.2) ⟨(.cons FX (.cons Nw .nil)),XsOk.nil,ItsOk.nil,YlOk.nil,IysOk.nil,XfOk.nil⟩ (Q02) λd hp=>h d.1.1 d.1.2.1 d.1.2.2.1 d.1.2.2.2 d.2.1 d.2.2 hp
theorem Rh:Q0b:=Ob λhk lw hd rows ds n h=>by
 unfold N3;(try delta lI gD sT I64 Q1 pj8 pj4);simp only[bne_iff_ne,bne_eq_false_iff_eq,ne_eq,Bool.not_not,<-nI,List.any_cons,List.any_nil,xy,zr,List.length_nil];refine⟨by omega,λh1=>?_,λh1=>⟨by omega,λh2=>?_,λh2=>?_⟩⟩
 .have:JM hk lw hd rows ds n=YD hk lw hd rows ds:=by unfold JM;rw[z2 h1]
  rw[this];and_intros<;>first|rfl|trivial
 .have:JM hk lw hd rows ds n=3:=by unfold JM;rw[z0 (by omega),z0 (by simpa using h2)]
  rw[this];and_intros<;>first|rfl|trivial
 .have:JM hk lw hd rows ds n=0:=by unfold JM;rw[z0 (by omega),z2 (by simpa using h2)]
  rw[this];and_intros<;>first|rfl|trivial
def AO:AL (Bool):=(.one (.k .bo))
def Q17 (d:Bool):Prop:=True
def Lc (d:Bool):SV:=.val (.i .u8) (Tk d)
def L9 (d:Bool):List OB:=[]
def SQ:CSp:=Y9 AO Q17 Lc L9
def Dq (x:Bool):Prop :=
 (x=true ->
  ((120:Int)=(Tk x)/\(True))) /\
 (x=false ->
  ((46:Int)=(Tk x)/\(True)))
def E5:Cx:=⟨[],[],4,[],0,[],[],[],[],false,[],[],[],[]⟩
def Q3l (x:Bool):List (Nat×LoopAnn):=[]
theorem Q4o (d:Bool):gwp (E5) (Q3l d) c74 0 (Yh [.tmp 2] (Lc d) (L9 d)) (Qo 4 (AL.can AO d))=Dq d:=by kernel_rfl
abbrev Q4l:Prop:=OkC Tryz.prog 74 SQ
theorem Q4a (h:∀ (x:Bool),(True)->Dq x):OkC Tryz.prog 74 SQ :=
 Qu Z67 mixed (C:=E5) (V:=λ(d:Bool)=>Dq d) ⟨.nil,XsOk.nil,ItsOk.nil,YlOk.nil,IysOk.nil,XfOk.nil⟩ (Q4o) λd hp=>h d hp
theorem Q3o:Q4l:=Q4a λx _=>by cases x<;>simp[Dq,Tk]
def Um:AL ((Int×List Int)×Int×Int):=(.cons (.agg (.cons (.k (.i .i64)) (.one (.k (.list (.i .i64)))))) (.cons (.k (.i .i64)) (.one (.k (.i .i64)))))
def Bk (d:(Int×List Int)×Int×Int):Prop:=0<=d.2.2/\d.2.2<d.1.2.length/\0<=d.2.1/\d.2.1<9223372036854775808/\∀ x∈d.1.2,0<=x/\x<=60
def VB (d:(Int×List Int)×Int×Int):SV:=.val .bo (d.2.1.toNat.testBit (d.1.2.getD d.2.2.toNat 0).toNat)
def VL (d:(Int×List Int)×Int×Int):List OB:=[]
def Kd:CSp:=Y9 Um Bk VB VL
def X_ (hk:Int) (lw:List Int) (row:Int) (w:Int):Prop :=
 (0<=w)/\(w<(List.length lw))/\(0<=(gD lw w 0))/\(((Qa .and .i64 (Jj .i64 row (gD lw w 0)) (1:Int))==(1:Int))=(row.toNat.testBit (lw.getD w.toNat 0).toNat)/\(True))
def Uq:Cx:=⟨[],[],17,[],0,[],[],[],[],false,[],[],[],[]⟩
def B_ (hk:Int) (lw:List Int) (row:Int) (w:Int):List (Nat×LoopAnn):=[]
theorem Hc (d:(Int×List Int)×Int×Int):gwp (Uq) (B_ d.1.1 d.1.2 d.2.1 d.2.2) c75 0 (Yh [.tmp 6] (VB d) (VL d)) (Qo 17 (AL.can Um d))=X_ d.1.1 d.1.2 d.2.1 d.2.2:=by kernel_rfl
abbrev Bu:Prop:=OkC Tryz.prog 75 Kd
theorem BG (h:∀ (hk:Int) (lw:List Int) (row:Int) (w:Int),(0<=w/\w<lw.length/\0<=row/\row<9223372036854775808/\∀ x∈lw,0<=x/\x<=60)->X_ hk lw row w):OkC Tryz.prog 75 Kd :=
 Qu Z8c mixed (C:=Uq) (V:=λ(d:(Int×List Int)×Int×Int)=>X_ d.1.1 d.1.2 d.2.1 d.2.2) ⟨.nil,XsOk.nil,ItsOk.nil,YlOk.nil,IysOk.nil,XfOk.nil⟩ (Hc) λd hp=>h d.1.1 d.1.2 d.2.1 d.2.2 hp
theorem BZ:Bu:=BG λhk lw row w h=>by
 obtain⟨h1,h2,h3,h4,h5⟩:=h;obtain⟨w,rfl⟩:=zm h1;obtain⟨r,rfl⟩:=zm h3;have hw:w<lw.length:=by omega
 have hx:=h5 _ (zd hw);obtain⟨k,hk⟩:=zm hx.1;unfold X_;(try delta lI gD sT I64 Q1 pj8 pj4);simp only[and_true,z7,Int.ofNat_lt,Qf hw,hk];refine⟨by omega,by omega,by omega,?_⟩;exact Z5t (by omega) (by omega)
def Ym:Cx:=⟨[],[],20,[],0,[(114,Z5o)],[],[],[],false,[],[],[],[]⟩
def Xm:XSp:=EW Ym (λ_=>[]) c97 [] 20
theorem Yc:XOk Tryz.prog 97 Xm:=Wc Z9i mixed (C:=Ym) ⟨.nil,(XsOk.cons (Q5w Q4e) XsOk.nil),ItsOk.nil,YlOk.nil,IysOk.nil,XfOk.nil⟩ _
def Yk:Cx:=⟨[(5,(.i .u8))],[],17,[],0,[(97,Xm)],[],[],[],false,[],[],[],[]⟩
def YI:XSp:=EW Yk (λ_=>[]) c73 [.tmp 4] 17
theorem UI:XOk Tryz.prog 73 YI:=Wc Z8r mixed (C:=Yk) ⟨.nil,(XsOk.cons Yc XsOk.nil),ItsOk.nil,YlOk.nil,IysOk.nil,XfOk.nil⟩ _
def Kh:Cx:=⟨[],[],14,[],0,[],[],[],[],false,[],[],[],[]⟩
def KK:XSp:=EW Kh (λ_=>[]) c76 [.tmp 2] 14
theorem Mc:XOk Tryz.prog 76 KK:=Wc Z8v mixed (C:=Kh) ⟨.nil,XsOk.nil,ItsOk.nil,YlOk.nil,IysOk.nil,XfOk.nil⟩ _
def Nv:AL ((Int×List Int)×Int):=(.cons (.agg (.cons (.k (.i .i64)) (.one (.k (.list (.i .i64)))))) (.one (.k (.i .i64))))
def Pd (d:(Int×List Int)×Int):Prop:=d.1.2.length<=110/\0<=d.2/\d.2<9223372036854775808/\∀ x∈d.1.2,0<=x/\x<=60
def UU (d:(Int×List Int)×Int):SV:=.val .st (Gp d.1.2 d.2)
def UO (d:(Int×List Int)×Int):List OB:=[]
def Vg:CSp:=Y9 Nv Pd UU UO
def Y0 (hk:Int) (lw:List Int) (row:Int):Prop :=
 ∃ (e4:Unit) (d40:Bool×(List Int)×Int),((row=row/\True/\True/\(lI lw)=(lI lw)/\(0:Int)=d40.2.2/\True)/\((hk=hk/\lw=lw/\(([]:List SV)=[]))/\(d40.1=false/\True/\(([]:List SV)=[]))/\(d40.2.1=[]/\(List.isEmpty d40.2.1)=true)/\True)) /\
 LoopP (λ(d4:Bool×(List Int)×Int) (q4:(Bool×(List Int)×Int)->Prop) =>
  ((decide (d4.2.2<(lI lw)))=true ->
   (0<=d4.2.2/\d4.2.2<lw.length/\0<=row/\row<9223372036854775808/\∀ x∈lw,0<=x/\x<=60)/\(True)/\∀ w5:List Value,∀ w6:List Value,((!d4.1)=true ->
    w6=w6/\(((List.length d4.2.1)+(List.length [(Tk (row.toNat.testBit (lw.getD d4.2.2.toNat 0).toNat))]))*1<=70368744177664)/\w5=w5/\(I64 (d4.2.2+(1:Int)))/\(∃ d7:Bool×(List Int)×Int,((row=row/\True/\True/\(lI lw)=(lI lw)/\(d4.2.2+(1:Int))=d7.2.2/\True)/\((hk=hk/\lw=lw/\(([]:List SV)=[]))/\(d7.1=true/\True/\(([]:List SV)=[]))/\((d4.2.1++[(Tk (row.toNat.testBit (lw.getD d4.2.2.toNat 0).toNat))])=d7.2.1/\false=(List.isEmpty d7.2.1))/\True))/\q4 d7)) /\
   ((!d4.1)=false ->
    (d4.1=true)/\((!true)=true ->
     False) /\
    ((!true)=false ->
     w6=w6/\(((List.length d4.2.1)+(List.length [(Tk (row.toNat.testBit (lw.getD d4.2.2.toNat 0).toNat))]))*1<=70368744177664)/\w5=w5/\(I64 (d4.2.2+(1:Int)))/\(∃ d8:Bool×(List Int)×Int,((row=row/\True/\True/\(lI lw)=(lI lw)/\(d4.2.2+(1:Int))=d8.2.2/\True)/\((hk=hk/\lw=lw/\(([]:List SV)=[]))/\(d4.1=d8.1/\True/\(([]:List SV)=[]))/\((d4.2.1++[(Tk (row.toNat.testBit (lw.getD d4.2.2.toNat 0).toNat))])=d8.2.1/\false=(List.isEmpty d8.2.1))/\True))/\q4 d8)))) /\
  ((decide (d4.2.2<(lI lw)))=false ->
   ∀ w9:List Value,((List.isEmpty d4.2.1)=false->d4.2.1≠[])/\((lI d4.2.1)=(List.length d4.2.1))/\((List.length d4.2.1)<=4611686018427387904)/\w9=w9/\((M4 d4.2.1)=(Gp lw row)/\(True)))) d40
def ND:Cx:=⟨[(5,(.i .u8))],[(75,Kd),(74,SQ)],22,[],0,[(73,YI),(97,Xm),(114,Z5o),(76,KK)],[],[],[],false,[],[],[],[]⟩
def Te (hk:Int) (lw:List Int) (row:Int):List (Nat×LoopAnn):=[(0,⟨Unit,Bool×(List Int)×Int,[1,2,5,10,11],λe x=>[.val (.i .i64) row,.box 2 0,.box 5 0,.val (.i .i64) (((List.length lw):Nat):Int),.val (.i .i64) x.2.2],λe x=>[(2,.slot 2,.cells [.val (.i .i64) hk,.val (.list (.i .i64)) lw] (some 105)),(5,.slot 5,.cells [.dd 5 (.obx x.1),.lst 2000014] (some 131)),(2000014,.cell 5 1,.lst 5 (.i .u8) x.2.1 (List.isEmpty x.2.1))]⟩)]
theorem Ta (d:(Int×List Int)×Int):gwp (ND) (Te d.1.1 d.1.2 d.2) c48 0 (Yh [.tmp 4] (UU d) (UO d)) (Qo 22 (AL.can Nv d))=Y0 d.1.1 d.1.2 d.2:=by kernel_rfl
abbrev TB:Prop:=OkC Tryz.prog 48 Vg
theorem Tn (h:∀ (hk:Int) (lw:List Int) (row:Int),(lw.length<=110/\0<=row/\row<9223372036854775808/\∀ x∈lw,0<=x/\x<=60)->Y0 hk lw row):OkC Tryz.prog 48 Vg :=
 Qu Z9b mixed (C:=ND) (V:=λ(d:(Int×List Int)×Int)=>Y0 d.1.1 d.1.2 d.2) ⟨(.cons BZ (.cons Q3o .nil)),(XsOk.cons UI (XsOk.cons Yc (XsOk.cons (Q5w Q4e) (XsOk.cons Mc XsOk.nil)))),ItsOk.nil,YlOk.nil,IysOk.nil,XfOk.nil⟩ (Ta) λd hp=>h d.1.1 d.1.2 d.2 hp
theorem Q6t (lw:List Int) (row:Int):M4 (lw.map λk=>Tk (row.toNat.testBit k.toNat))=Gp lw row:=by simp only[M4,Gp,x_];refine x8 λk _=>?_;simp only[Function.comp,Tk];split<;>rfl
theorem To:TB:=Tn λhk lw row h=>by
 obtain⟨h1,h2,h3,h4⟩:=h;unfold Y0;(try delta lI gD sT I64 Q1 pj8 pj4);simp only[true_and,and_true,exists_const,z6,zy,ne_eq,Bool.not_eq_true',xg,Qm];refine⟨(false,[],0),⟨rfl,rfl,rfl,rfl⟩,?_⟩;refine⟨λd=>∃ i:Nat,i<=lw.length/\d.2.2=i/\d.2.1=(lw.take i).map λk=>Tk (row.toNat.testBit k.toNat),λd=>lw.length-d.2.2.toNat,⟨0,Nat.zero_le _,rfl,by simp⟩,?_⟩;rintro⟨c,xs,_⟩ ⟨i,hi,rfl,bj⟩;dsimp only at bj |-;have ft:xs.length=i:=by rw[bj];simp;omega
 refine⟨λao=>?_,λcA=>?_⟩
 .have ao:i<lw.length:=by omega
  have hn:xs++[Tk (row.toNat.testBit lw[i].toNat)]=(lw.take (i+1)).map λk=>Tk (row.toNat.testBit k.toNat):=by rw[bj,QO ao,xi];rfl
  simp only[z7,Qf ao,zV];refine⟨⟨by omega,by omega,h2,h3,h4⟩,λ_ w6=>⟨λhc=>?_,λhc=>?_⟩⟩
  .exact⟨by omega,by omega,(true,xs++[Tk (row.toNat.testBit lw[i].toNat)],(i:Int)+1),⟨rfl,rfl,rfl,by simp⟩,⟨i+1,by omega,by simp,hn⟩,by dsimp only;omega⟩
  .refine⟨by simpa using hc,?_⟩;refine⟨λh=>by simp at h,λ_=>?_⟩;exact⟨by omega,by omega,(c,xs++[Tk (row.toNat.testBit lw[i].toNat)],(i:Int)+1),⟨rfl,rfl,rfl,by simp⟩,⟨i+1,by omega,by simp,hn⟩,by dsimp only;omega⟩
 .have:i=lw.length:=by omega
  subst this;rw[List.take_length] at bj;refineλ_=>⟨?_,by omega,?_⟩
  .intro aJ h0;rw[h0] at aJ;simp at aJ
  .rw[bj];exact Q6t lw row
def Lv:AL ((Int×List Int)×Int×List Int):=(.cons (.agg (.cons (.k (.i .i64)) (.one (.k (.list (.i .i64)))))) (.one (.agg (.cons (.k (.i .i64)) (.one (.k (.list (.i .i64))))))))
def On (d:(Int×List Int)×Int×List Int):Prop:=d.1.2.length<=110/\d.2.2.length<=110
def Rm (d:(Int×List Int)×Int×List Int):SV:=.tup [.lst 0,.val (.i .i64) (Q7 d.1.1 d.1.2 d.2.1 d.2.2)]
def TY (d:(Int×List Int)×Int×List Int):List OB:=[.lst 9 .st (ZV d.1.1 d.1.2 d.2.1 d.2.2) ((ZV d.1.1 d.1.2 d.2.1 d.2.2).isEmpty)]
def NS:CSp:=Y9 Lv On Rm TY
def Mq (hk:Int) (lw:List Int) (hd:Int) (rows:List Int):Prop :=
 (lw.length<=1000000)/\(((Wu hk lw) != (0:Int))=true ->
  ((True/\(Wu hk lw)=Q7 hk lw hd rows/\(([]:List SV)=[]))/\(((ZV hk lw hd rows)=[]/\(ZV hk lw hd rows).isEmpty=true)/\True))) /\
 (((Wu hk lw) != (0:Int))=false ->
  (rows.length<=1000000)/\(((Zb hd rows) != (0:Int))=true ->
   ((True/\(Zb hd rows)=Q7 hk lw hd rows/\(([]:List SV)=[]))/\(((ZV hk lw hd rows)=[]/\(ZV hk lw hd rows).isEmpty=true)/\True))) /\
  (((Zb hd rows) != (0:Int))=false ->
   ((hd != hk)=true ->
    ((True/\(4:Int)=Q7 hk lw hd rows/\(([]:List SV)=[]))/\(((ZV hk lw hd rows)=[]/\(ZV hk lw hd rows).isEmpty=true)/\True))) /\
   ((hd != hk)=false ->
    ∃ (e4:Unit) (d40:(List (List UInt8))×Int),((True/\True/\rows=rows/\(lI rows)=(lI rows)/\(0:Int)=d40.2/\True)/\((hk=hk/\lw=lw/\(([]:List SV)=[]))/\(d40.1=[]/\(List.isEmpty d40.1)=true)/\True)) /\
    LoopP (λ(d4:(List (List UInt8))×Int) (q4:((List (List UInt8))×Int)->Prop) =>
     ((decide (d4.2<(lI rows)))=true ->
      (0<=d4.2)/\(d4.2<(List.length rows))/\(lw.length<=110/\0<=(gD rows d4.2 0)/\(gD rows d4.2 0)<9223372036854775808/\∀ x∈lw,0<=x/\x<=60)/\(((List.length d4.1)+(List.length [(Gp lw (gD rows d4.2 0))]))*16<=70368744177664)/\(I64 (d4.2+(1:Int)))/\(∃ d5:(List (List UInt8))×Int,((True/\True/\rows=rows/\(lI rows)=(lI rows)/\(d4.2+(1:Int))=d5.2/\True)/\((hk=hk/\lw=lw/\(([]:List SV)=[]))/\((d4.1++[(Gp lw (gD rows d4.2 0))])=d5.1/\false=(List.isEmpty d5.1))/\True))/\q4 d5)) /\
     ((decide (d4.2<(lI rows)))=false ->
      ((True/\(0:Int)=Q7 hk lw hd rows/\(([]:List SV)=[]))/\((d4.1=(ZV hk lw hd rows)/\(List.isEmpty d4.1)=(ZV hk lw hd rows).isEmpty)/\True)))) d40)))
def Ly:Cx:=⟨[(9,.st)],[(46,D6),(47,Ni),(48,Vg)],43,[],0,[],[],[],[],false,[],[],[],[]⟩
def Q32 (hk:Int) (lw:List Int) (hd:Int) (rows:List Int):List (Nat×LoopAnn):=[(1,⟨Unit,(List (List UInt8))×Int,[2,4,28,29,30],λe x=>[.box 2 0,.lst 40,.val (.list (.i .i64)) rows,.val (.i .i64) (((List.length rows):Nat):Int),.val (.i .i64) x.2],λe x=>[(2,.slot 2,.cells [.val (.i .i64) hk,.val (.list (.i .i64)) lw] (some 28)),(40,.slot 4,.lst 9 .st x.1 (List.isEmpty x.1))]⟩)]
theorem Q27 (d:(Int×List Int)×Int×List Int):gwp (Ly) (Q32 d.1.1 d.1.2 d.2.1 d.2.2) c24 0 (Yh [.tmp 4,.tmp 5] (Rm d) (TY d)) (Qo 43 (AL.can Lv d))=Mq d.1.1 d.1.2 d.2.1 d.2.2:=by kernel_rfl
abbrev Q3e:Prop:=OkC Tryz.prog 24 NS
theorem Q1q (h:∀ (hk:Int) (lw:List Int) (hd:Int) (rows:List Int),(lw.length<=110/\rows.length<=110)->Mq hk lw hd rows):OkC Tryz.prog 24 NS :=
 Qu Z96 mixed (C:=Ly) (V:=λ(d:(Int×List Int)×Int×List Int)=>Mq d.1.1 d.1.2 d.2.1 d.2.2) ⟨(.cons Li (.cons PL (.cons To .nil))),XsOk.nil,ItsOk.nil,YlOk.nil,IysOk.nil,XfOk.nil⟩ (Q27) λd hp=>h d.1.1 d.1.2 d.2.1 d.2.2 hp
theorem Q00 {hd:Int}{rows:List Int}(h:Zb hd rows=0):1<=hd/\hd<=24/\rows.length<=60/\rows.length≠0/\∀ x∈rows,0<=x/\x<2 ^ hd.toNat:=by
 unfold Zb at h;split at h
 .cases h
 .rename_i h1;split at h
  .cases h
  .rename_i h2;split at h
   .cases h
   .rename_i h3;split at h
    .cases h
    .rename_i h4;have h1:1<=hd/\hd<=24:=by simpa [inI] using h1
     refine⟨h1.1,h1.2,by omega,h3,λx hx=>?_⟩;have h5:∀ x∈rows,inI x 0 (2 ^ hd.toNat-1)=true:=by simpa using h4
     have:=h5 x hx;simp only[inI,z1,z6] at this;omega
theorem Hm:Q3e:=Q1q λhk lw hd rows h=>by
 obtain⟨h1,h2⟩:=h;unfold Mq;(try delta lI gD sT I64 Q1 pj8 pj4);simp only[true_and,and_true,exists_const,z6,zy,bne_iff_ne,ne_eq,bne_eq_false_iff_eq,Qm];refine⟨by omega,λhe=>?_,λhe=>⟨by omega,λhp=>?_,λhp=>⟨λhh=>?_,λhh=>?_⟩⟩⟩
 .have e:Q7 hk lw hd rows=Wu hk lw:=by simp[Q7,he]
  have e2:ZV hk lw hd rows=[]:=by simp[ZV,e,he]
  rw[e,e2];exact⟨rfl,rfl,rfl⟩
 .have e:Q7 hk lw hd rows=Zb hd rows:=by simp[Q7,he,hp]
  have e2:ZV hk lw hd rows=[]:=by simp[ZV,e,hp]
  rw[e,e2];exact⟨rfl,rfl,rfl⟩
 .have e:Q7 hk lw hd rows=4:=by simp[Q7,he,hp,hh]
  have e2:ZV hk lw hd rows=[]:=by simp[ZV,e]
  rw[e,e2];exact⟨rfl,rfl,rfl⟩
 have e:Q7 hk lw hd rows=0:=by unfold Q7;rw[z0 (by omega),z0 (by omega),z0 (by omega)]
 have e2:ZV hk lw hd rows=rows.map (Gp lw):=by simp[ZV,e]
 obtain⟨t1,t2,t3,t4,t5⟩:=Dh he;obtain⟨p1,p2,p3,p4,p5⟩:=Q00 hp;have jq:=H9 p1 p2;rw[e,e2];refine⟨([],0),⟨rfl,rfl,rfl⟩,?_⟩;refine LoopP.count2 rows.length (λk xs=>xs=(rows.take k).map (Gp lw)) (by simp) λk xs hk hJ q hq=>?_;have ft:xs.length=k:=by rw[hJ];simp;omega
 dsimp only;refine⟨λao=>?_,λcA=>?_⟩
 .have ao:k<rows.length:=by omega
  have hr:=p5 _ (zd ao);simp only[z7,Qf ao,zV];refine⟨by omega,by omega,⟨h1,hr.1,by omega,λx hx=>by have:=t5 x hx;omega⟩,by omega,by omega,(xs++[Gp lw rows[k]],(k:Int)+1),⟨rfl,rfl,by simp⟩,hq _ ao ?_⟩;rw[QO ao,xi,<-hJ];rfl
 .have:k=rows.length:=by omega
  subst this;rw[List.take_length] at hJ;rw[hJ];exact⟨rfl,rfl,rfl⟩
theorem J35 {a b:Nat}(ha:a<2 ^ 62) (hb:b<2 ^ 62):Qa .xor .i64 (a:Int) (b:Int)=((a ^^^ b:Nat):Int):=by
 have e:(BitVec.ofInt 64 ((a:Nat):Int) ^^^ BitVec.ofInt 64 ((b:Nat):Int)).toNat=a ^^^ b:=by rw[BitVec.toNat_xor,BitVec.toNat_ofInt,BitVec.toNat_ofInt];congr 1<;>omega
 have ao:a ^^^ b<2 ^ 62:=Nat.xor_lt_two_pow ha hb;show IntKind.wrap .i64 ((BitVec.ofInt 64 ((a:Nat):Int) ^^^ BitVec.ofInt 64 ((b:Nat):Int)).toNat:Int)=_;rw[e];generalize a ^^^ b=c at *
 simp[IntKind.wrap,IntKind.bits,IntKind.signed];omega
theorem J1x {a b:Nat}(ha:a<2 ^ 62) (hb:b<2 ^ 62):Qa .or .i64 (a:Int) (b:Int)=((a ||| b:Nat):Int):=by
 have e:(BitVec.ofInt 64 ((a:Nat):Int) ||| BitVec.ofInt 64 ((b:Nat):Int)).toNat=a ||| b:=by rw[BitVec.toNat_or,BitVec.toNat_ofInt,BitVec.toNat_ofInt];congr 1<;>omega
 have ao:a ||| b<2 ^ 62:=Nat.or_lt_two_pow ha hb
 show IntKind.wrap .i64 ((BitVec.ofInt 64 ((a:Nat):Int) ||| BitVec.ofInt 64 ((b:Nat):Int)).toNat:Int)=_;rw[e];generalize a ||| b=c at *
 simp[IntKind.wrap,IntKind.bits,IntKind.signed];omega
theorem J39 {a b:Nat}(ha:a<2 ^ 62) (hb:b<2 ^ 62):Qa .and .i64 (a:Int) (b:Int)=((a &&& b:Nat):Int):=by
 have e:(BitVec.ofInt 64 ((a:Nat):Int) &&& BitVec.ofInt 64 ((b:Nat):Int)).toNat=a &&& b:=by rw[BitVec.toNat_and,BitVec.toNat_ofInt,BitVec.toNat_ofInt];congr 1<;>omega
 have ao:a &&& b<=a:=Nat.and_le_left;show IntKind.wrap .i64 ((BitVec.ofInt 64 ((a:Nat):Int) &&& BitVec.ofInt 64 ((b:Nat):Int)).toNat:Int)=_;rw[e];generalize a &&& b=c at *
 simp[IntKind.wrap,IntKind.bits,IntKind.signed];omega
theorem J2a {a:Nat}{h:Int}(h0:0<=h) (h1:h<=62):Je .i64 (a:Int) h=((a*2 ^ h.toNat:Nat):Int):=by unfold Je;rw[show Nat.min h.toNat (IntKind.bits .i64)=h.toNat from xD (show h.toNat<=64 by omega)];push_cast;rfl
theorem Z4r {h:Int}(h0:0<=h) (h1:h<=62):Je .i64 1 h=((2 ^ h.toNat:Nat):Int):=by have:=J2a (a:=1) h0 h1;rw[xu] at this;exact this
theorem J38 {x i:Nat}(hi:i<=64):Jj .i64 (x:Int) (i:Int)=((x >>> i:Nat):Int):=by have:Nat.min i 64=i:=xD hi;simp only[Jj,z7,IntKind.bits,this];rw[x5,Int.fdiv_eq_ediv_of_nonneg _ (Int.le_of_lt (Int.pow_pos (by omega)))];norm_cast
theorem Z8f {h:Nat}(h1:h<=24):2 ^ h<=2 ^ 24:=Nat.pow_le_pow_right (by omega) h1
theorem Z0l {row r h:Nat}(cW:row<2 ^ h) (hh:h<=24) (hr:r<2 ^ 24):Qa .or .i64 (Je .i64 (row:Int) 1) (Qa .and .i64 (Jj .i64 (r:Int) (h:Int)) 1)=((row*2+(if r.testBit h then 1 else 0):Nat):Int)/\InK .i64 (Je .i64 (row:Int) 1):=by
 have e1:Je .i64 (row:Int) 1=((row*2:Nat):Int):=by have:=J2a (a:=row) (h:=1) (by omega) (by omega);simpa using this
 have hp:=Z8f hh;have hs:r >>> h<=r:=by rw[x5];exact Nat.div_le_self _ _
 rw[e1,J38 (by omega),show (1:Int)=((1:Nat):Int) from rfl,J39 (by omega) (by omega)];have eb:r >>> h &&& 1=if r.testBit h then 1 else 0:=by rw[Nat.testBit,Nat.and_comm 1,Nat.and_one_is_mod];rcases Nat.mod_two_eq_zero_or_one (r >>> h) with e|e<;>rw[e]<;>rfl
 rw[eb];have hb:(if r.testBit h then 1 else 0)<2 ^ 1:=by split<;>omega
 generalize (if r.testBit h then 1 else 0)=b at *
 rw[J1x (by omega) (by omega)];refine⟨?_,by rw[Qm];omega⟩;congr 1;have:=Nat.two_pow_add_eq_or_of_lt hb row;rw[xZ row 2];simp at this;omega
theorem Q4q (n r:Nat):∀ h,Q8h n r h<2 ^ h
 |0=>by simp[Q8h]
 |h+1=>by have:=Q4q n r h;rw[Q8h,Nat.pow_succ];split<;>omega
def Q8m (h:Nat) (up:Bool) (r:Int):Int:=((if up then r.toNat ||| 2 ^ h else (r.toNat ||| 2 ^ h) ^^^ 2 ^ h:Nat):Int)
theorem Z6f {r h:Int}(hr:0<=r/\r<2 ^ 24) (h0:0<=h) (h1:h<24):Qa .or .i64 r (Je .i64 1 h)=((r.toNat ||| 2 ^ h.toNat:Nat):Int):=by obtain⟨n,rfl⟩:=zm hr.1;have:=Z8f (h:=h.toNat) (by omega);rw[Z4r h0 (by omega),J1x (by omega) (by omega)];rfl
theorem Z09 {r h:Int}(hr:0<=r/\r<2 ^ 24) (h0:0<=h) (h1:h<24):Qa .xor .i64 r (Je .i64 1 h)=((r.toNat ^^^ 2 ^ h.toNat:Nat):Int):=by obtain⟨n,rfl⟩:=zm hr.1;have:=Z8f (h:=h.toNat) (by omega);rw[Z4r h0 (by omega),J35 (by omega) (by omega)];rfl
theorem Z4e {h:Int}(h0:0<=h) (h1:h<24):InK .i64 (Je .i64 1 h):=by
 have:=Z8f (h:=h.toNat) (by omega);rw[Z4r h0 (by omega),Qm];generalize 2 ^ h.toNat=y at *
 omega
theorem Sa (n:Nat):(2:Int) ^ n=((2 ^ n:Nat):Int):=by push_cast;rfl
theorem Z84 {H:Nat}{h:Nat}(hH:h<H) {up:Bool}{r:Int}(hr:0<=r/\r<2 ^ H):0<=Q8m h up r/\Q8m h up r<2 ^ H:=by
 have hp:2 ^ h<2 ^ H:=Nat.pow_lt_pow_right (by omega) hH;have hn:r.toNat<2 ^ H:=by have:=Sa H;omega
 have h1:r.toNat ||| 2 ^ h<2 ^ H:=Nat.or_lt_two_pow hn hp
 have h2:(r.toNat ||| 2 ^ h) ^^^ 2 ^ h<2 ^ H:=Nat.xor_lt_two_pow h1 hp;unfold Q8m;have:=Sa H;cases up<;>simp only[zq,if_false,zj]<;>omega
theorem Is {hd:Int}{rows lw:List Int}{d:Dmg}(h:P3 hd rows lw d=true):1<=d.1/\d.1<=5/\0<=d.2.1/\d.2.1<rows.length/\0<=d.2.2.1/\d.2.2.1<hd/\0<=d.2.2.2.1/\d.2.2.2.1<lw.length:=by unfold P3 inI at h;simp only[z1,z6] at h;omega
theorem U8 {hk:Int}{lw:List Int}{hd:Int}{rows:List Int}(h:Q7 hk lw hd rows=0):Wu hk lw=0/\hd=hk/\1<=hd/\hd<=24/\1<=rows.length/\rows.length<=60/\∀ x∈rows,0<=x/\x<2 ^ hd.toNat:=by
 unfold Q7 at h;split at h
 .exact(absurd h ‹_›)
 .rename_i h1;split at h
  .exact(absurd h ‹_›)
  .rename_i h2;split at h
   .cases h
   .have h2:Zb hd rows=0:=by omega
    unfold Zb at h2;split at h2
    .cases h2
    .rename_i h3;split at h2
     .cases h2
     .split at h2
      .cases h2
      .split at h2
       .cases h2
       .rename_i h4;have h3:inI hd 1 24=true:=by simpa using h3
        unfold inI at h3;simp only[z1,z6] at h3;refine⟨by omega,by omega,h3.1,h3.2,by omega,by omega,λx hx=>?_⟩;have:inI x 0 (2 ^ hd.toNat-1)=true:=by
         have h5:(rows.any λx=>!inI x 0 (2 ^ hd.toNat-1))=false:=by simpa using h4
         have:=xc.1 h5 x hx;simpa using this
        unfold inI at this;simp only[z1,z6] at this;omega
theorem Z3z {hk:Int}{lw:List Int}{hd:Int}{rows:List Int}(h0:Wu hk lw=0) (h1:hd=hk) (h2:1<=hd) (h3:hd<=24) (h4:1<=rows.length) (h5:rows.length<=60) (h6:∀ x∈rows,0<=x/\x<2 ^ hd.toNat):Q7 hk lw hd rows=0:=by
 have e1:inI hd 1 24=true:=by simp[inI];omega
 have e2:(rows.any λx=>!inI x 0 (2 ^ hd.toNat-1))=false:=by
  rw[xc];intro x hx;have:=h6 x hx;have e3:inI x 0 (2 ^ hd.toNat-1)=true:=by unfold inI;simp only[z1,z6];omega
  rw[e3];simp
 have e4:Zb hd rows=0:=by unfold Zb;rw[z0 (by rw[e1];simp),z0 (by omega),z0 (by omega),z0 (by rw[e2];simp)]
 unfold Q7;rw[z0 (by omega),z0 (by omega),z0 (by omega)]
theorem Q4k {hk:Int}{lw:List Int}{hd:Int}{rows:List Int}{d:Dmg}(h:Q7 hk lw hd rows=0) (dO:P3 hd rows lw d=true):Q7 hk lw hd (Pg hd rows d)=0/\(Pg hd rows d).length=rows.length:=by
 obtain⟨h0,h1,h2,h3,h4,h5,h6⟩:=U8 h;obtain⟨d1,d2,d3,d4,d5,d6,d7,d8⟩:=Is dO;have jq:=Sa hd.toNat;have hg:∀ i,i<rows.length->0<=rows.getD i 0/\rows.getD i 0<2 ^ hd.toNat:=λi hi=>by rw[Qf hi];exact h6 _ (zd hi)
 have key:(Pg hd rows d).length=rows.length/\∀ x∈Pg hd rows d,0<=x/\x<2 ^ hd.toNat:=by
  have a7:∀ (l:List Int) (i:Nat) (v:Int),(∀ x∈l,0<=x/\x<2 ^ hd.toNat)->(0<=v/\v<2 ^ hd.toNat)->∀ x∈l.set i v,0<=x/\x<2 ^ hd.toNat:=λl i v hl hv x hx=>by
   rcases List.mem_or_eq_of_mem_set hx with h|h
   .exact hl x h
   .rw[h];exact hv
  unfold Pg;split
  .refine⟨by simp,a7 _ _ _ h6 ?_⟩;have hp:2 ^ d.2.2.1.toNat<2 ^ hd.toNat:=Nat.pow_lt_pow_right (by omega) (by omega);have h7:=hg d.2.1.toNat (by omega);have:=Nat.xor_lt_two_pow (x:=(rows.getD d.2.1.toNat 0).toNat) (y:=2 ^ d.2.2.1.toNat) (n:=hd.toNat) (by omega) hp;omega
  .split
   .refine⟨by simp,λx hx=>?_⟩;obtain⟨r,hr,rfl⟩:=zC.1 hx;exact Z84 (up:=d.2.2.2.2) (by omega) (h6 r hr)
   .split
    .refine⟨by simp,a7 _ _ _ h6 ?_⟩;have:=Q4q hd.toNat (rows.getD d.2.1.toNat 0).toNat hd.toNat;omega
    .split
     .refine⟨by simp,a7 _ _ _ (a7 _ _ _ h6 (hg _ (xm _ (by omega)))) (hg _ (by omega))⟩
     .exact⟨rfl,h6⟩
 exact⟨Z3z h0 h1 h2 h3 (by omega) (by omega) key.2,key.1⟩
def LB (d:Dmg):List (Int×Bool):=if d.1=5 then [(d.2.2.2.1,true)] else []
theorem Ee (s:List UInt8):M4 (s.map λ(b:UInt8)=>((b.toNat:Nat):Int))=s:=by
 unfold M4;rw[x_];conv=>rhs;rw[<-List.map_id s]
 exact x8 λb _=>by simp[Function.comp]
theorem Z0a (s:List UInt8) (w:Nat):M4 ((s.map λ(b:UInt8)=>((b.toNat:Nat):Int)).set w 46)=s.set w 46:=by have:=Ee s;unfold M4 at this |-;rw[List.map_set,this];rfl
def SY {α:Type}(f:α->α) (l:List α) (n:Nat):List α:=(l.take n).map f++l.drop n
theorem Ac {α:Type}(f:α->α) (l:List α):SY f l 0=l:=by simp[SY]
theorem O0 {α:Type}(f:α->α) (l:List α):SY f l l.length=l.map f:=by simp[SY]
theorem TK {α:Type}(f:α->α) (l:List α) (n:Nat):(SY f l n).length=l.length:=by simp[SY];omega
theorem En {α:Type}(f:α->α) (l:List α) (n:Nat) (d:α) (h:n<l.length):(SY f l n).getD n d=l.getD n d:=by
 unfold SY;have e:((l.take n).map f).length=n:=by simp;omega
 rw[z5,xj (by omega),e,wA,z5,zN,zR]
theorem Q0l {α:Type}(f:α->α) (l:List α) (n:Nat) (d:α) (h:n<l.length):(SY f l n).set n (f (l.getD n d))=SY f l (n+1):=by
 unfold SY;have e:((l.take n).map f).length=n:=by simp;omega
 rw[xX _ _ (by omega),e,wA,QO h,xi,xK h,List.set_cons_zero,Qf h];simp
def KU:AL (List Int):=(.one (.k (.list (.i .i64))))
def Gu (d:List Int):Prop:=d≠[]/\d.length<=110
def KB (d:List Int):SV:=.lst 0
def KD (d:List Int):List OB:=[.lst 3 (.i .i64) d false]
def XF:CSp:=Y9 KU Gu KB KD
def X8 (l:List Int):Prop :=
 (l≠[])/\(false=true ->
  (True/\((l=[]/\false=true)/\True))) /\
 (false=false ->
  (((List.length ([]:List Int))+(List.length l))*8<=70368744177664)/\(True/\(((([]:List Int)++l)=l/\((List.isEmpty l)&&false)=false)/\True)))
def Vp:Cx:=⟨[(3,(.i .i64))],[],8,[],0,[],[],[],[],false,[],[],[],[]⟩
def Db (l:List Int):List (Nat×LoopAnn):=[]
theorem GO (d:List Int):gwp (Vp) (Db d) c50 0 (Yh [.tmp 2] (KB d) (KD d)) (Qo 8 (AL.can KU d))=X8 d:=by kernel_rfl
abbrev Dg:Prop:=OkC Tryz.prog 50 XF
theorem Dd (h:∀ (l:List Int),(l≠[]/\l.length<=110)->X8 l):OkC Tryz.prog 50 XF :=
 Qu Z78 mixed (C:=Vp) (V:=λ(d:List Int)=>X8 d) ⟨.nil,XsOk.nil,ItsOk.nil,YlOk.nil,IysOk.nil,XfOk.nil⟩ (GO) λd hp=>h d hp
theorem Vj:Dg:=Dd λl h=>by simp[X8,h.1];omega
def ZX:AL (Int×Int×(((Int×Int×Int×Int×Bool)×(Int×Int×Int×Int×Bool)->Prop)×((Int×Int×Int×Int×Bool)×(Int×Int×Int×Int×Bool)->Int))):=(.cons (.k (.i .i64)) (.cons (.k (.i .i64)) (.one (.fn [(.pair (.i .i64) (.pair (.i .i64) (.pair (.i .i64) (.pair (.i .i64) .bo)))),(.pair (.i .i64) (.pair (.i .i64) (.pair (.i .i64) (.pair (.i .i64) .bo))))] (.i .i64)))))
def Wj (xs:List (Int×Int×Int×Int×Bool)) (nl:Bool) (d:Int×Int×(((Int×Int×Int×Int×Bool)×(Int×Int×Int×Int×Bool)->Prop)×((Int×Int×Int×Int×Bool)×(Int×Int×Int×Int×Bool)->Int))):Prop:=d.1=0/\d.2.1=xs.length/\xs.length<=1/\(∀ x∈xs,∀ y∈xs,d.2.2.1 (x,y))
def ZO (xs:List (Int×Int×Int×Int×Bool)) (nl:Bool) (d:Int×Int×(((Int×Int×Int×Int×Bool)×(Int×Int×Int×Int×Bool)->Prop)×((Int×Int×Int×Int×Bool)×(Int×Int×Int×Int×Bool)->Int))):SV:=.tup []
def ZC (xs:List (Int×Int×Int×Int×Bool)) (nl:Bool) (d:Int×Int×(((Int×Int×Int×Int×Bool)×(Int×Int×Int×Int×Bool)->Prop)×((Int×Int×Int×Int×Bool)×(Int×Int×Int×Int×Bool)->Int))):List (Int×Int×Int×Int×Bool):=xs
def QQ:XSp:=Q0h (gap [] 3) (Q1a 43 (.pair (.i .i64) (.pair (.i .i64) (.pair (.i .i64) (.pair (.i .i64) .bo)))) ZX Wj ZO ZC)
def Qy (xs:List (Int×Int×Int×Int×Bool)) (nl:Bool) (a:Int) (b:Int) (p:((Int×Int×Int×Int×Bool)×(Int×Int×Int×Int×Bool)->Prop)×((Int×Int×Int×Int×Bool)×(Int×Int×Int×Int×Bool)->Int)):Prop:=∀ vals:List Value,
 (I64 (a+(1:Int)))/\∃ (e2:Unit) (d20:(List (Int×Int×Int×Int×Bool))×Bool×Int),((True/\a=a/\b=b/\(SV.pf [(.pair (.i .i64) (.pair (.i .i64) (.pair (.i .i64) (.pair (.i .i64) .bo)))),(.pair (.i .i64) (.pair (.i .i64) (.pair (.i .i64) (.pair (.i .i64) .bo))))] (.i .i64) p.1 p.2=SV.pf [(.pair (.i .i64) (.pair (.i .i64) (.pair (.i .i64) (.pair (.i .i64) .bo)))),(.pair (.i .i64) (.pair (.i .i64) (.pair (.i .i64) (.pair (.i .i64) .bo))))] (.i .i64) p.1 p.2)/\(a+(1:Int))=d20.2.2/\True)/\((xs=d20.1/\nl=d20.2.1)/\(vals=vals/\(True/\(([]:List SV)=[])))/\True)) /\
 LoopP (λ(d2:(List (Int×Int×Int×Int×Bool))×Bool×Int) (q2:((List (Int×Int×Int×Int×Bool))×Bool×Int)->Prop) =>
  ((decide (d2.2.2<b))=true ->
   ∃ (e5:Bool×Int) (d50:(List (Int×Int×Int×Int×Bool))×Int),((True/\a=a/\b=b/\(SV.pf [(.pair (.i .i64) (.pair (.i .i64) (.pair (.i .i64) (.pair (.i .i64) .bo)))),(.pair (.i .i64) (.pair (.i .i64) (.pair (.i .i64) (.pair (.i .i64) .bo))))] (.i .i64) p.1 p.2=SV.pf [(.pair (.i .i64) (.pair (.i .i64) (.pair (.i .i64) (.pair (.i .i64) .bo)))),(.pair (.i .i64) (.pair (.i .i64) (.pair (.i .i64) (.pair (.i .i64) .bo))))] (.i .i64) p.1 p.2)/\d2.2.2=e5.2/\d2.2.2=d50.2/\True)/\((d2.1=d50.1/\d2.2.1=e5.1)/\(vals=vals/\(True/\(([]:List SV)=[])))/\True)) /\
   LoopP (λ(d5:(List (Int×Int×Int×Int×Bool))×Int) (q5:((List (Int×Int×Int×Int×Bool))×Int)->Prop) =>
    ((decide (d5.2 > a))=true->0<=d5.2)/\((decide (d5.2 > a))=true->d5.2<(List.length d5.1))/\((decide (d5.2 > a))=true->InK .i64 (d5.2-(1:Int)))/\((decide (d5.2 > a))=true->0<=(d5.2-(1:Int)))/\((decide (d5.2 > a))=true->(d5.2-(1:Int))<(List.length d5.1))/\((decide (d5.2 > a))=true->p.1 (((gD d5.1 d5.2 (0,(0,(0,(0,false))))).1,((gD d5.1 d5.2 (0,(0,(0,(0,false))))).2.1,((gD d5.1 d5.2 (0,(0,(0,(0,false))))).2.2.1,((gD d5.1 d5.2 (0,(0,(0,(0,false))))).2.2.2.1,(gD d5.1 d5.2 (0,(0,(0,(0,false))))).2.2.2.2)))),((gD d5.1 (d5.2-(1:Int)) (0,(0,(0,(0,false))))).1,((gD d5.1 (d5.2-(1:Int)) (0,(0,(0,(0,false))))).2.1,((gD d5.1 (d5.2-(1:Int)) (0,(0,(0,(0,false))))).2.2.1,((gD d5.1 (d5.2-(1:Int)) (0,(0,(0,(0,false))))).2.2.2.1,(gD d5.1 (d5.2-(1:Int)) (0,(0,(0,(0,false))))).2.2.2.2))))))/\(((decide (d5.2 > a))&&(decide ((p.2 (((gD d5.1 d5.2 (0,(0,(0,(0,false))))).1,((gD d5.1 d5.2 (0,(0,(0,(0,false))))).2.1,((gD d5.1 d5.2 (0,(0,(0,(0,false))))).2.2.1,((gD d5.1 d5.2 (0,(0,(0,(0,false))))).2.2.2.1,(gD d5.1 d5.2 (0,(0,(0,(0,false))))).2.2.2.2)))),((gD d5.1 (d5.2-(1:Int)) (0,(0,(0,(0,false))))).1,((gD d5.1 (d5.2-(1:Int)) (0,(0,(0,(0,false))))).2.1,((gD d5.1 (d5.2-(1:Int)) (0,(0,(0,(0,false))))).2.2.1,((gD d5.1 (d5.2-(1:Int)) (0,(0,(0,(0,false))))).2.2.2.1,(gD d5.1 (d5.2-(1:Int)) (0,(0,(0,(0,false))))).2.2.2.2))))))<(0:Int))))=true ->
     (I64 (d5.2-(1:Int)))/\(I64 (d5.2-(1:Int)))/\(0<=(d5.2-(1:Int)))/\((d5.2-(1:Int))<(List.length d5.1))/\(0<=d5.2)/\(d5.2<(List.length d5.1))/\(0<=d5.2)/\(d5.2<(List.length d5.1))/\(0<=(d5.2-(1:Int)))/\((d5.2-(1:Int))<(List.length (sT d5.1 d5.2 ((gD d5.1 (d5.2-(1:Int)) (0,(0,(0,(0,false))))).1,((gD d5.1 (d5.2-(1:Int)) (0,(0,(0,(0,false))))).2.1,((gD d5.1 (d5.2-(1:Int)) (0,(0,(0,(0,false))))).2.2.1,((gD d5.1 (d5.2-(1:Int)) (0,(0,(0,(0,false))))).2.2.2.1,(gD d5.1 (d5.2-(1:Int)) (0,(0,(0,(0,false))))).2.2.2.2)))))))/\(I64 (d5.2-(1:Int)))/\(∃ d6:(List (Int×Int×Int×Int×Bool))×Int,((True/\a=a/\b=b/\(SV.pf [(.pair (.i .i64) (.pair (.i .i64) (.pair (.i .i64) (.pair (.i .i64) .bo)))),(.pair (.i .i64) (.pair (.i .i64) (.pair (.i .i64) (.pair (.i .i64) .bo))))] (.i .i64) p.1 p.2=SV.pf [(.pair (.i .i64) (.pair (.i .i64) (.pair (.i .i64) (.pair (.i .i64) .bo)))),(.pair (.i .i64) (.pair (.i .i64) (.pair (.i .i64) (.pair (.i .i64) .bo))))] (.i .i64) p.1 p.2)/\e5.2=e5.2/\(d5.2-(1:Int))=d6.2/\True)/\(((sT (sT d5.1 d5.2 ((gD d5.1 (d5.2-(1:Int)) (0,(0,(0,(0,false))))).1,((gD d5.1 (d5.2-(1:Int)) (0,(0,(0,(0,false))))).2.1,((gD d5.1 (d5.2-(1:Int)) (0,(0,(0,(0,false))))).2.2.1,((gD d5.1 (d5.2-(1:Int)) (0,(0,(0,(0,false))))).2.2.2.1,(gD d5.1 (d5.2-(1:Int)) (0,(0,(0,(0,false))))).2.2.2.2))))) (d5.2-(1:Int)) ((gD d5.1 d5.2 (0,(0,(0,(0,false))))).1,((gD d5.1 d5.2 (0,(0,(0,(0,false))))).2.1,((gD d5.1 d5.2 (0,(0,(0,(0,false))))).2.2.1,((gD d5.1 d5.2 (0,(0,(0,(0,false))))).2.2.2.1,(gD d5.1 d5.2 (0,(0,(0,(0,false))))).2.2.2.2)))))=d6.1/\e5.1=e5.1)/\(vals=vals/\(True/\(([]:List SV)=[])))/\True))/\q5 d6)) /\
    (((decide (d5.2 > a))&&(decide ((p.2 (((gD d5.1 d5.2 (0,(0,(0,(0,false))))).1,((gD d5.1 d5.2 (0,(0,(0,(0,false))))).2.1,((gD d5.1 d5.2 (0,(0,(0,(0,false))))).2.2.1,((gD d5.1 d5.2 (0,(0,(0,(0,false))))).2.2.2.1,(gD d5.1 d5.2 (0,(0,(0,(0,false))))).2.2.2.2)))),((gD d5.1 (d5.2-(1:Int)) (0,(0,(0,(0,false))))).1,((gD d5.1 (d5.2-(1:Int)) (0,(0,(0,(0,false))))).2.1,((gD d5.1 (d5.2-(1:Int)) (0,(0,(0,(0,false))))).2.2.1,((gD d5.1 (d5.2-(1:Int)) (0,(0,(0,(0,false))))).2.2.2.1,(gD d5.1 (d5.2-(1:Int)) (0,(0,(0,(0,false))))).2.2.2.2))))))<(0:Int))))=false ->
     (I64 (e5.2+(1:Int)))/\(∃ d7:(List (Int×Int×Int×Int×Bool))×Bool×Int,((True/\a=a/\b=b/\(SV.pf [(.pair (.i .i64) (.pair (.i .i64) (.pair (.i .i64) (.pair (.i .i64) .bo)))),(.pair (.i .i64) (.pair (.i .i64) (.pair (.i .i64) (.pair (.i .i64) .bo))))] (.i .i64) p.1 p.2=SV.pf [(.pair (.i .i64) (.pair (.i .i64) (.pair (.i .i64) (.pair (.i .i64) .bo)))),(.pair (.i .i64) (.pair (.i .i64) (.pair (.i .i64) (.pair (.i .i64) .bo))))] (.i .i64) p.1 p.2)/\(e5.2+(1:Int))=d7.2.2/\True)/\((d5.1=d7.1/\e5.1=d7.2.1)/\(vals=vals/\(True/\(([]:List SV)=[])))/\True))/\q2 d7))) d50) /\
  ((decide (d2.2.2<b))=false ->
   (vals=vals/\(True/\(([]:List SV)=[]))/\((([]:List SV)=[]))/\(d2.1=xs/\d2.2.1=nl)))) d20
def ZY:Cx:=⟨[],[],53,[],0,[],[],[],[],false,[],[],[],[]⟩
def ZZ (xs:List (Int×Int×Int×Int×Bool)) (nl:Bool) (a:Int) (b:Int) (p:((Int×Int×Int×Int×Bool)×(Int×Int×Int×Int×Bool)->Prop)×((Int×Int×Int×Int×Bool)×(Int×Int×Int×Int×Bool)->Int)) (vals:List Value):List (Nat×LoopAnn):=[(0,⟨Unit,(List (Int×Int×Int×Int×Bool))×Bool×Int,[0,1,2,3,8],λe x=>[.lst 0,.val (.i .i64) a,.val (.i .i64) b,.pf [(.pair (.i .i64) (.pair (.i .i64) (.pair (.i .i64) (.pair (.i .i64) .bo)))),(.pair (.i .i64) (.pair (.i .i64) (.pair (.i .i64) (.pair (.i .i64) .bo))))] (.i .i64) p.1 p.2,.val (.i .i64) x.2.2],λe x=>[(0,.slot 0,.lst 43 (.pair (.i .i64) (.pair (.i .i64) (.pair (.i .i64) (.pair (.i .i64) .bo)))) x.1 x.2.1),(4000000,.key 4000000,.stk [.lst 0] vals)]⟩),
 (2,⟨Bool×Int,(List (Int×Int×Int×Int×Bool))×Int,[0,1,2,3,8,9],λe x=>[.lst 0,.val (.i .i64) a,.val (.i .i64) b,.pf [(.pair (.i .i64) (.pair (.i .i64) (.pair (.i .i64) (.pair (.i .i64) .bo)))),(.pair (.i .i64) (.pair (.i .i64) (.pair (.i .i64) (.pair (.i .i64) .bo))))] (.i .i64) p.1 p.2,.val (.i .i64) e.2,.val (.i .i64) x.2],λe x=>[(0,.slot 0,.lst 43 (.pair (.i .i64) (.pair (.i .i64) (.pair (.i .i64) (.pair (.i .i64) .bo)))) x.1 e.1),(4000000,.key 4000000,.stk [.lst 0] vals)]⟩)]
theorem Wx (xs:List (Int×Int×Int×Int×Bool)) (nl:Bool) (d:Int×Int×(((Int×Int×Int×Int×Bool)×(Int×Int×Int×Int×Bool)->Prop)×((Int×Int×Int×Int×Bool)×(Int×Int×Int×Int×Bool)->Int))):(∀ vals,gwp ZY (ZZ xs nl d.1 d.2.1 d.2.2 vals) c99 0 (Q2f vals [] (ZO xs nl d) (.lst 43 (.pair (.i .i64) (.pair (.i .i64) (.pair (.i .i64) (.pair (.i .i64) .bo)))) (ZC xs nl d) nl) (.lst 0)) (Mk 53 (.lst 0) (.lst 43 (.pair (.i .i64) (.pair (.i .i64) (.pair (.i .i64) (.pair (.i .i64) .bo)))) xs nl) vals (AL.can ZX d)))=Qy xs nl d.1 d.2.1 d.2.2:=by kernel_rfl
abbrev Wv:Prop:=XOk Tryz.prog 99 QQ
theorem WB (h:∀ (xs:List (Int×Int×Int×Int×Bool)) (nl:Bool) (a:Int) (b:Int) (p:((Int×Int×Int×Int×Bool)×(Int×Int×Int×Int×Bool)->Prop)×((Int×Int×Int×Int×Bool)×(Int×Int×Int×Int×Bool)->Int)),(a=0/\b=xs.length/\xs.length<=1/\(∀ x∈xs,∀ y∈xs,p.1 (x,y)))->Qy xs nl a b p):XOk Tryz.prog 99 QQ :=
 HY Z8w mixed (Rp .nil 3) (C:=ZY) ⟨.nil,XsOk.nil,ItsOk.nil,YlOk.nil,IysOk.nil,XfOk.nil⟩ (L:=λxs nl (d:Int×Int×(((Int×Int×Int×Int×Bool)×(Int×Int×Int×Int×Bool)->Prop)×((Int×Int×Int×Int×Bool)×(Int×Int×Int×Int×Bool)->Int))) vals=>ZZ xs nl d.1 d.2.1 d.2.2 vals) (V:=λxs nl (d:Int×Int×(((Int×Int×Int×Int×Bool)×(Int×Int×Int×Int×Bool)->Prop)×((Int×Int×Int×Int×Bool)×(Int×Int×Int×Int×Bool)->Int)))=>Qy xs nl d.1 d.2.1 d.2.2) Wx λxs nl d hp=>h xs nl d.1 d.2.1 d.2.2 hp
theorem Wi:Wv:=WB λxs nl a b p h=>by
 obtain⟨rfl,rfl,h3,h4⟩:=h;unfold Qy;(try delta lI gD sT I64 Q1 pj8 pj4);intro vals;refine⟨by rw[Qm];omega,(),(xs,nl,0+1),(by and_intros<;>first|rfl|trivial|simp),?_⟩;refine⟨λd=>d=(xs,nl,0+1),λ_=>0,rfl,?_⟩;rintro _ rfl;refine⟨λc=>?_,λ_=>(by and_intros<;>first|rfl|trivial|simp)⟩;have c:(0+1:Int)<xs.length:=by simpa using c
 omega
def JE:AL (Int×(((Int×Int×Int×Int×Bool)×(Int×Int×Int×Int×Bool)->Prop)×((Int×Int×Int×Int×Bool)×(Int×Int×Int×Int×Bool)->Int))):=(.cons (.k (.i .i64)) (.one (.fn [(.pair (.i .i64) (.pair (.i .i64) (.pair (.i .i64) (.pair (.i .i64) .bo)))),(.pair (.i .i64) (.pair (.i .i64) (.pair (.i .i64) (.pair (.i .i64) .bo))))] (.i .i64))))
def YA (xs:List (Int×Int×Int×Int×Bool)) (nl:Bool) (d:Int×(((Int×Int×Int×Int×Bool)×(Int×Int×Int×Int×Bool)->Prop)×((Int×Int×Int×Int×Bool)×(Int×Int×Int×Int×Bool)->Int))):Prop:=d.1=xs.length/\xs.length<=1/\(∀ x∈xs,∀ y∈xs,d.2.1 (x,y))
def Jo (xs:List (Int×Int×Int×Int×Bool)) (nl:Bool) (d:Int×(((Int×Int×Int×Int×Bool)×(Int×Int×Int×Int×Bool)->Prop)×((Int×Int×Int×Int×Bool)×(Int×Int×Int×Int×Bool)->Int))):SV:=.tup []
def Ji (xs:List (Int×Int×Int×Int×Bool)) (nl:Bool) (d:Int×(((Int×Int×Int×Int×Bool)×(Int×Int×Int×Int×Bool)->Prop)×((Int×Int×Int×Int×Bool)×(Int×Int×Int×Int×Bool)->Int))):List (Int×Int×Int×Int×Bool):=xs
def Zx:XSp:=Q0h (gap [] 3) (Q1a 43 (.pair (.i .i64) (.pair (.i .i64) (.pair (.i .i64) (.pair (.i .i64) .bo)))) JE YA Jo Ji)
def QK (xs:List (Int×Int×Int×Int×Bool)) (nl:Bool) (n:Int) (p:((Int×Int×Int×Int×Bool)×(Int×Int×Int×Int×Bool)->Prop)×((Int×Int×Int×Int×Bool)×(Int×Int×Int×Int×Bool)->Int)):Prop:=∀ vals:List Value,
 ∃ (e3:Unit) (d30:Int×Int),((True/\n=n/\(SV.pf [(.pair (.i .i64) (.pair (.i .i64) (.pair (.i .i64) (.pair (.i .i64) .bo)))),(.pair (.i .i64) (.pair (.i .i64) (.pair (.i .i64) (.pair (.i .i64) .bo))))] (.i .i64) p.1 p.2=SV.pf [(.pair (.i .i64) (.pair (.i .i64) (.pair (.i .i64) (.pair (.i .i64) .bo)))),(.pair (.i .i64) (.pair (.i .i64) (.pair (.i .i64) (.pair (.i .i64) .bo))))] (.i .i64) p.1 p.2)/\(20:Int)=(20:Int)/\(0:Int)=d30.1/\(20:Int)=d30.2/\True)/\((xs=xs/\nl=nl)/\(vals=vals/\(True/\(([]:List SV)=[])))/\True)) /\
 LoopP (λ(d3:Int×Int) (q3:(Int×Int)->Prop) =>
  ((decide (d3.2<=n))=true ->
   (d3.1=0/\d3.2=xs.length/\xs.length<=1/\(∀ x∈xs,∀ y∈xs,(λ(x1:(Int×Int×Int×Int×Bool)×(Int×Int×Int×Int×Bool))=>p.1 ((x1.1.1,(x1.1.2.1,(x1.1.2.2.1,(x1.1.2.2.2.1,x1.1.2.2.2.2)))),(x1.2.1,(x1.2.2.1,(x1.2.2.2.1,(x1.2.2.2.2.1,x1.2.2.2.2.2)))))) (x,y)))/\(I64 (d3.2+(20:Int)))/\(∃ d4:Int×Int,((True/\n=n/\(SV.pf [(.pair (.i .i64) (.pair (.i .i64) (.pair (.i .i64) (.pair (.i .i64) .bo)))),(.pair (.i .i64) (.pair (.i .i64) (.pair (.i .i64) (.pair (.i .i64) .bo))))] (.i .i64) p.1 p.2=SV.pf [(.pair (.i .i64) (.pair (.i .i64) (.pair (.i .i64) (.pair (.i .i64) .bo)))),(.pair (.i .i64) (.pair (.i .i64) (.pair (.i .i64) (.pair (.i .i64) .bo))))] (.i .i64) p.1 p.2)/\(20:Int)=(20:Int)/\d3.2=d4.1/\(d3.2+(20:Int))=d4.2/\True)/\((xs=xs/\nl=nl)/\(vals=vals/\(True/\(([]:List SV)=[])))/\True))/\q3 d4)) /\
  ((decide (d3.2<=n))=false ->
   (d3.1=0/\n=xs.length/\xs.length<=1/\(∀ x∈xs,∀ y∈xs,(λ(x2:(Int×Int×Int×Int×Bool)×(Int×Int×Int×Int×Bool))=>p.1 ((x2.1.1,(x2.1.2.1,(x2.1.2.2.1,(x2.1.2.2.2.1,x2.1.2.2.2.2)))),(x2.2.1,(x2.2.2.1,(x2.2.2.2.1,(x2.2.2.2.2.1,x2.2.2.2.2.2)))))) (x,y)))/\∃ (e7:Unit) (d70:Bool×Int),((True/\n=n/\(SV.pf [(.pair (.i .i64) (.pair (.i .i64) (.pair (.i .i64) (.pair (.i .i64) .bo)))),(.pair (.i .i64) (.pair (.i .i64) (.pair (.i .i64) (.pair (.i .i64) .bo))))] (.i .i64) p.1 p.2=SV.pf [(.pair (.i .i64) (.pair (.i .i64) (.pair (.i .i64) (.pair (.i .i64) .bo)))),(.pair (.i .i64) (.pair (.i .i64) (.pair (.i .i64) (.pair (.i .i64) .bo))))] (.i .i64) p.1 p.2)/\(20:Int)=d70.2/\True)/\((xs=xs/\nl=d70.1)/\(vals=vals/\(True/\(([]:List SV)=[])))/\True)) /\
   LoopP (λ(d7:Bool×Int) (q7:(Bool×Int)->Prop) =>
    ((decide (d7.2<n))=true ->
     (I64 ((2:Int)*d7.2))/\∃ (ae:Bool×Int×Int) (d100:Unit),((True/\n=n/\(SV.pf [(.pair (.i .i64) (.pair (.i .i64) (.pair (.i .i64) (.pair (.i .i64) .bo)))),(.pair (.i .i64) (.pair (.i .i64) (.pair (.i .i64) (.pair (.i .i64) .bo))))] (.i .i64) p.1 p.2=SV.pf [(.pair (.i .i64) (.pair (.i .i64) (.pair (.i .i64) (.pair (.i .i64) .bo)))),(.pair (.i .i64) (.pair (.i .i64) (.pair (.i .i64) (.pair (.i .i64) .bo))))] (.i .i64) p.1 p.2)/\d7.2=ae.2.1/\(0:Int)=(0:Int)/\((2:Int)*d7.2)=ae.2.2/\True)/\((xs=xs/\d7.1=ae.1)/\(vals=vals/\(True/\(([]:List SV)=[])))/\True)) /\
     LoopP (λ(d10:Unit) (iX:(Unit)->Prop) =>
      ((decide (ae.2.2<=n))=true ->
       (I64 ((0:Int)+ae.2.1))/\False) /\
      ((decide (ae.2.2<=n))=false ->
       (I64 ((0:Int)+ae.2.1))/\((decide (((0:Int)+ae.2.1)<n))=true ->
        False) /\
       ((decide (((0:Int)+ae.2.1)<n))=false ->
        (I64 (ae.2.1*(2:Int)))/\(∃ d11:Bool×Int,((True/\n=n/\(SV.pf [(.pair (.i .i64) (.pair (.i .i64) (.pair (.i .i64) (.pair (.i .i64) .bo)))),(.pair (.i .i64) (.pair (.i .i64) (.pair (.i .i64) (.pair (.i .i64) .bo))))] (.i .i64) p.1 p.2=SV.pf [(.pair (.i .i64) (.pair (.i .i64) (.pair (.i .i64) (.pair (.i .i64) .bo)))),(.pair (.i .i64) (.pair (.i .i64) (.pair (.i .i64) (.pair (.i .i64) .bo))))] (.i .i64) p.1 p.2)/\(ae.2.1*(2:Int))=d11.2/\True)/\((xs=xs/\ae.1=d11.1)/\(vals=vals/\(True/\(([]:List SV)=[])))/\True))/\q7 d11)))) d100) /\
    ((decide (d7.2<n))=false ->
     (vals=vals/\(True/\(([]:List SV)=[]))/\((([]:List SV)=[]))/\(xs=xs/\d7.1=nl)))) d70)) d30
def JF:Cx:=⟨[],[],63,[],0,[(99,QQ),(100,Q9b)],[],[],[],false,[],[],[],[]⟩
def JC (xs:List (Int×Int×Int×Int×Bool)) (nl:Bool) (n:Int) (p:((Int×Int×Int×Int×Bool)×(Int×Int×Int×Int×Bool)->Prop)×((Int×Int×Int×Int×Bool)×(Int×Int×Int×Int×Bool)->Int)) (vals:List Value):List (Nat×LoopAnn):=[(0,⟨Unit,Int×Int,[0,1,2,6,7,8],λe x=>[.lst 0,.val (.i .i64) n,.pf [(.pair (.i .i64) (.pair (.i .i64) (.pair (.i .i64) (.pair (.i .i64) .bo)))),(.pair (.i .i64) (.pair (.i .i64) (.pair (.i .i64) (.pair (.i .i64) .bo))))] (.i .i64) p.1 p.2,.val (.i .i64) (20:Int),.val (.i .i64) x.1,.val (.i .i64) x.2],λe x=>[(0,.slot 0,.lst 43 (.pair (.i .i64) (.pair (.i .i64) (.pair (.i .i64) (.pair (.i .i64) .bo)))) xs nl),(4000000,.key 4000000,.stk [.lst 0] vals)]⟩),
 (2,⟨Unit,Bool×Int,[0,1,2,6],λe x=>[.lst 0,.val (.i .i64) n,.pf [(.pair (.i .i64) (.pair (.i .i64) (.pair (.i .i64) (.pair (.i .i64) .bo)))),(.pair (.i .i64) (.pair (.i .i64) (.pair (.i .i64) (.pair (.i .i64) .bo))))] (.i .i64) p.1 p.2,.val (.i .i64) x.2],λe x=>[(0,.slot 0,.lst 43 (.pair (.i .i64) (.pair (.i .i64) (.pair (.i .i64) (.pair (.i .i64) .bo)))) xs x.1),(4000000,.key 4000000,.stk [.lst 0] vals)]⟩),
 (4,⟨Bool×Int×Int,Unit,[0,1,2,6,7,8],λe x=>[.lst 0,.val (.i .i64) n,.pf [(.pair (.i .i64) (.pair (.i .i64) (.pair (.i .i64) (.pair (.i .i64) .bo)))),(.pair (.i .i64) (.pair (.i .i64) (.pair (.i .i64) (.pair (.i .i64) .bo))))] (.i .i64) p.1 p.2,.val (.i .i64) e.2.1,.val (.i .i64) (0:Int),.val (.i .i64) e.2.2],λe x=>[(0,.slot 0,.lst 43 (.pair (.i .i64) (.pair (.i .i64) (.pair (.i .i64) (.pair (.i .i64) .bo)))) xs e.1),(4000000,.key 4000000,.stk [.lst 0] vals)]⟩)]
theorem YL (xs:List (Int×Int×Int×Int×Bool)) (nl:Bool) (d:Int×(((Int×Int×Int×Int×Bool)×(Int×Int×Int×Int×Bool)->Prop)×((Int×Int×Int×Int×Bool)×(Int×Int×Int×Int×Bool)->Int))):(∀ vals,gwp JF (JC xs nl d.1 d.2 vals) c80 0 (Q2f vals [] (Jo xs nl d) (.lst 43 (.pair (.i .i64) (.pair (.i .i64) (.pair (.i .i64) (.pair (.i .i64) .bo)))) (Ji xs nl d) nl) (.lst 0)) (Mk 63 (.lst 0) (.lst 43 (.pair (.i .i64) (.pair (.i .i64) (.pair (.i .i64) (.pair (.i .i64) .bo)))) xs nl) vals (AL.can JE d)))=QK xs nl d.1 d.2:=by kernel_rfl
abbrev YE:Prop:=XOk Tryz.prog 80 Zx
theorem YM (h:∀ (xs:List (Int×Int×Int×Int×Bool)) (nl:Bool) (n:Int) (p:((Int×Int×Int×Int×Bool)×(Int×Int×Int×Int×Bool)->Prop)×((Int×Int×Int×Int×Bool)×(Int×Int×Int×Int×Bool)->Int)),(n=xs.length/\xs.length<=1/\(∀ x∈xs,∀ y∈xs,p.1 (x,y)))->QK xs nl n p):XOk Tryz.prog 80 Zx :=
 HY Z6g mixed (Rp .nil 3) (C:=JF) ⟨.nil,(XsOk.cons Wi (XsOk.cons Cy XsOk.nil)),ItsOk.nil,YlOk.nil,IysOk.nil,XfOk.nil⟩ (L:=λxs nl (d:Int×(((Int×Int×Int×Int×Bool)×(Int×Int×Int×Int×Bool)->Prop)×((Int×Int×Int×Int×Bool)×(Int×Int×Int×Int×Bool)->Int))) vals=>JC xs nl d.1 d.2 vals) (V:=λxs nl (d:Int×(((Int×Int×Int×Int×Bool)×(Int×Int×Int×Int×Bool)->Prop)×((Int×Int×Int×Int×Bool)×(Int×Int×Int×Int×Bool)->Int)))=>QK xs nl d.1 d.2) YL λxs nl d hp=>h xs nl d.1 d.2 hp
theorem Yy:YE:=YM λxs nl n p h=>by
 obtain⟨rfl,h3,h4⟩:=h;unfold QK;(try delta lI gD sT I64 Q1 pj8 pj4);intro vals;refine⟨(),(0,20),(by and_intros<;>first|rfl|trivial|simp),?_⟩;refine⟨λd=>d=(0,20),λ_=>0,rfl,?_⟩;rintro _ rfl;refine⟨λc=>?_,λ_=>⟨⟨rfl,rfl,h3,h4⟩,(),(nl,20),(by and_intros<;>first|rfl|trivial|simp),?_⟩⟩
 .have c:(20:Int)<=xs.length:=by simpa using c
  omega
 .refine⟨λd=>d=(nl,20),λ_=>0,rfl,?_⟩;rintro _ rfl;refine⟨λc=>?_,λ_=>(by and_intros<;>first|rfl|trivial|simp)⟩;have c:(20:Int)<xs.length:=by simpa using c
  omega
def Q_:AL (((Int×Int×Int×Int×Bool)×(Int×Int×Int×Int×Bool)->Prop)×((Int×Int×Int×Int×Bool)×(Int×Int×Int×Int×Bool)->Int)):=(.one (.fn [(.pair (.i .i64) (.pair (.i .i64) (.pair (.i .i64) (.pair (.i .i64) .bo)))),(.pair (.i .i64) (.pair (.i .i64) (.pair (.i .i64) (.pair (.i .i64) .bo))))] (.i .i64)))
def JB (xs:List (Int×Int×Int×Int×Bool)) (nl:Bool) (d:((Int×Int×Int×Int×Bool)×(Int×Int×Int×Int×Bool)->Prop)×((Int×Int×Int×Int×Bool)×(Int×Int×Int×Int×Bool)->Int)):Prop:=xs.length<=1/\(∀ x∈xs,∀ y∈xs,d.1 (x,y))
def QU (xs:List (Int×Int×Int×Int×Bool)) (nl:Bool) (d:((Int×Int×Int×Int×Bool)×(Int×Int×Int×Int×Bool)->Prop)×((Int×Int×Int×Int×Bool)×(Int×Int×Int×Int×Bool)->Int)):SV:=.tup []
def QT (xs:List (Int×Int×Int×Int×Bool)) (nl:Bool) (d:((Int×Int×Int×Int×Bool)×(Int×Int×Int×Int×Bool)->Prop)×((Int×Int×Int×Int×Bool)×(Int×Int×Int×Int×Bool)->Int)):List (Int×Int×Int×Int×Bool):=xs
def Qe:XSp:=Q0h (gap [(53,X0)] 3) (Q1a 43 (.pair (.i .i64) (.pair (.i .i64) (.pair (.i .i64) (.pair (.i .i64) .bo)))) Q_ JB QU QT)
def Qd (xs:List (Int×Int×Int×Int×Bool)) (nl:Bool) (p:((Int×Int×Int×Int×Bool)×(Int×Int×Int×Int×Bool)->Prop)×((Int×Int×Int×Int×Bool)×(Int×Int×Int×Int×Bool)->Int)):Prop:=∀ vals:List Value,
 ((lI xs)=xs.length/\xs.length<=1/\(∀ x∈xs,∀ y∈xs,(λ(x1:(Int×Int×Int×Int×Bool)×(Int×Int×Int×Int×Bool))=>p.1 ((x1.1.1,(x1.1.2.1,(x1.1.2.2.1,(x1.1.2.2.2.1,x1.1.2.2.2.2)))),(x1.2.1,(x1.2.2.1,(x1.2.2.2.1,(x1.2.2.2.2.1,x1.2.2.2.2.2)))))) (x,y)))/\(vals=vals/\(True/\(([]:List SV)=[]))/\((([]:List SV)=[]))/\(xs=xs/\nl=nl))
def QZ:Cx:=⟨[],[],9,[],0,[(80,Zx)],[],[],[],false,[],[],[],[]⟩
def QY (xs:List (Int×Int×Int×Int×Bool)) (nl:Bool) (p:((Int×Int×Int×Int×Bool)×(Int×Int×Int×Int×Bool)->Prop)×((Int×Int×Int×Int×Bool)×(Int×Int×Int×Int×Bool)->Int)) (vals:List Value):List (Nat×LoopAnn):=[]
theorem JH (xs:List (Int×Int×Int×Int×Bool)) (nl:Bool) (d:((Int×Int×Int×Int×Bool)×(Int×Int×Int×Int×Bool)->Prop)×((Int×Int×Int×Int×Bool)×(Int×Int×Int×Int×Bool)->Int)):(∀ vals,gwp QZ (QY xs nl d vals) c52 0 (Q2f vals [] (QU xs nl d) (.lst 43 (.pair (.i .i64) (.pair (.i .i64) (.pair (.i .i64) (.pair (.i .i64) .bo)))) (QT xs nl d) nl) (.lst 0)) (Mk 9 (.lst 0) (.lst 43 (.pair (.i .i64) (.pair (.i .i64) (.pair (.i .i64) (.pair (.i .i64) .bo)))) xs nl) vals (AL.can Q_ d)))=Qd xs nl d:=by kernel_rfl
abbrev JI:Prop:=XOk Tryz.prog 52 Qe
theorem JJ (h:∀ (xs:List (Int×Int×Int×Int×Bool)) (nl:Bool) (p:((Int×Int×Int×Int×Bool)×(Int×Int×Int×Int×Bool)->Prop)×((Int×Int×Int×Int×Bool)×(Int×Int×Int×Int×Bool)->Int)),(xs.length<=1/\(∀ x∈xs,∀ y∈xs,p.1 (x,y)))->Qd xs nl p):XOk Tryz.prog 52 Qe :=
 HY J03 mixed (Rp (.cons YQ .nil) 3) (C:=QZ) ⟨.nil,(XsOk.cons Yy XsOk.nil),ItsOk.nil,YlOk.nil,IysOk.nil,XfOk.nil⟩ (L:=λxs nl (d:((Int×Int×Int×Int×Bool)×(Int×Int×Int×Int×Bool)->Prop)×((Int×Int×Int×Int×Bool)×(Int×Int×Int×Int×Bool)->Int)) vals=>QY xs nl d vals) (V:=λxs nl (d:((Int×Int×Int×Int×Bool)×(Int×Int×Int×Int×Bool)->Prop)×((Int×Int×Int×Int×Bool)×(Int×Int×Int×Int×Bool)->Int))=>Qd xs nl d) JH λxs nl d hp=>h xs nl d hp
theorem QV:JI:=JJ λxs nl p h=>by unfold Qd;(try delta lI gD sT I64 Q1 pj8 pj4);intro vals;exact⟨⟨rfl,h.1,h.2⟩,(by and_intros<;>first|rfl|trivial|simp)⟩
def NL:AL ((Int×List Int×Int×List Int)×Unit):=(.cons (.agg (.cons (.k (.i .i64)) (.cons (.k (.list (.i .i64))) (.cons (.k (.i .i64)) (.one (.k (.list (.i .i64)))))))) (.one .nilS))
def Pe (d:(Int×List Int×Int×List Int)×Unit):Prop:=Q7 d.1.1 d.1.2.1 d.1.2.2.1 d.1.2.2.2=0/\d.1.2.1.length<=110/\d.1.2.2.2.length<=110
def UP (d:(Int×List Int×Int×List Int)×Unit):SV:=.lst 0
def UT (d:(Int×List Int×Int×List Int)×Unit):List OB:=[.lst 9 .st (Wy d.1.2.1 d.1.2.2.1 d.1.2.2.2 []) false]
def JS:CSp:=Y9 NL Pe UP UT
def Y3 (hk:Int) (lw:List Int) (hd:Int) (rows:List Int):Prop :=
 (rows≠[]/\rows.length<=110)/\(True)/\(([]:List Dmg).length<=1/\(∀ x∈([]:List Dmg),∀ y∈([]:List Dmg),(λ(x1:(Int×Int×Int×Int×Bool)×(Int×Int×Int×Int×Bool))=>True) (x,y)))/\∀ w1:List Value,w1=w1/\∃ (e4:Unit) (d40:(List Int)×(List (Int×Bool))×Int),((True/\True/\True/\True/\True/\(lI ([]:List Dmg))=(lI ([]:List Dmg))/\(0:Int)=d40.2.2/\True)/\((hk=hk/\lw=lw/\hd=hd/\rows=rows/\(([]:List SV)=[]))/\(rows=d40.1/\false=false)/\(([]:List (Int×Bool))=d40.2.1)/\True/\(([]:List Dmg)=([]:List Dmg)/\true=(List.isEmpty ([]:List Dmg)))/\True)) /\
 LoopP (λ(d4:(List Int)×(List (Int×Bool))×Int) (q4:((List Int)×(List (Int×Bool))×Int)->Prop) =>
  ((decide (d4.2.2<(lI ([]:List Dmg))))=true ->
   (0<=d4.2.2)/\(d4.2.2<(List.length ([]:List Dmg)))/\(1<=(gD ([]:List Dmg) d4.2.2 (0,(0,(0,(0,false))))).1)/\((gD ([]:List Dmg) d4.2.2 (0,(0,(0,(0,false))))).1<=((5:Nat):Int)) /\
   ((gD ([]:List Dmg) d4.2.2 (0,(0,(0,(0,false))))).1=(1:Int) ->
    ∀ w5:List Value,(0<=(gD ([]:List Dmg) d4.2.2 (0,(0,(0,(0,false))))).2.1)/\((gD ([]:List Dmg) d4.2.2 (0,(0,(0,(0,false))))).2.1<(List.length d4.1))/\(0<=(gD ([]:List Dmg) d4.2.2 (0,(0,(0,(0,false))))).2.2.1)/\(I64 (Je .i64 (1:Int) (gD ([]:List Dmg) d4.2.2 (0,(0,(0,(0,false))))).2.2.1))/\(0<=(gD ([]:List Dmg) d4.2.2 (0,(0,(0,(0,false))))).2.1)/\((gD ([]:List Dmg) d4.2.2 (0,(0,(0,(0,false))))).2.1<(List.length d4.1))/\w5=w5/\(I64 (d4.2.2+(1:Int)))/\(∃ d6:(List Int)×(List (Int×Bool))×Int,((True/\True/\True/\True/\True/\(lI ([]:List Dmg))=(lI ([]:List Dmg))/\(d4.2.2+(1:Int))=d6.2.2/\True)/\((hk=hk/\lw=lw/\hd=hd/\rows=rows/\(([]:List SV)=[]))/\((List.set d4.1 (Int.toNat (gD ([]:List Dmg) d4.2.2 (0,(0,(0,(0,false))))).2.1) (Qa .xor .i64 (List.getD d4.1 (Int.toNat (gD ([]:List Dmg) d4.2.2 (0,(0,(0,(0,false))))).2.1) 0) (Je .i64 (1:Int) (gD ([]:List Dmg) d4.2.2 (0,(0,(0,(0,false))))).2.2.1)))=d6.1/\false=false)/\(d4.2.1=d6.2.1)/\True/\(([]:List Dmg)=([]:List Dmg)/\(List.isEmpty ([]:List Dmg))=(List.isEmpty ([]:List Dmg)))/\True))/\q4 d6)) /\
   ((gD ([]:List Dmg) d4.2.2 (0,(0,(0,(0,false))))).1=(2:Int) ->
    ∀ w7:List Value,∃ (ae:Int×Int×Int×Int×Bool×Int×Int×(List Int)×Int×(List Int)×(List (Int×Bool))×Int×Int×Int×Int×Bool×(List (Int×Int×Int×Int×Bool))×Int×Int×Bool×Int×Int×Int×Int×Bool×Int×Int×(List Int)×Int×(List Int)×Int×Int×Int×Int×Bool×(List Value)) (d100:(List Int)×Int),((True/\True/\(lI d4.1)=(pj4 ae).2.1/\(0:Int)=d100.2/\True)/\((d4.1=d100.1/\false=false)/\((gD ([]:List Dmg) d4.2.2 (0,(0,(0,(0,false))))).1=ae.1/\(gD ([]:List Dmg) d4.2.2 (0,(0,(0,(0,false))))).2.1=ae.2.1/\(gD ([]:List Dmg) d4.2.2 (0,(0,(0,(0,false))))).2.2.1=ae.2.2.1/\(gD ([]:List Dmg) d4.2.2 (0,(0,(0,(0,false))))).2.2.2.1=ae.2.2.2.1/\(gD ([]:List Dmg) d4.2.2 (0,(0,(0,(0,false))))).2.2.2.2=(pj4 ae).1/\(([]:List SV)=[]))/\((Q1 (Q1 ae)).2.2.2=w7/\(True/\True/\True/\True/\True/\True/\True/\True/\True/\True/\True/\True/\True/\True/\True/\True/\True/\True/\True/\True/\True/\True/\True/\True/\True/\True/\(lI ([]:List Dmg))=(Q1 ae).2.1/\d4.2.2=(Q1 ae).2.2.1/\(decide (d4.2.2<(lI ([]:List Dmg))))=(Q1 ae).2.2.2.1/\True/\((gD ([]:List Dmg) d4.2.2 (0,(0,(0,(0,false))))).1=(pj4 (Q1 ae)).1/\(gD ([]:List Dmg) d4.2.2 (0,(0,(0,(0,false))))).2.1=(pj4 (Q1 ae)).2.1/\(gD ([]:List Dmg) d4.2.2 (0,(0,(0,(0,false))))).2.2.1=(pj4 (Q1 ae)).2.2.1/\(gD ([]:List Dmg) d4.2.2 (0,(0,(0,(0,false))))).2.2.2.1=(pj4 (Q1 ae)).2.2.2.1/\(gD ([]:List Dmg) d4.2.2 (0,(0,(0,(0,false))))).2.2.2.2=(pj8 (Q1 ae)).1/\(([]:List SV)=[]))/\True/\True/\(2:Int)=(pj8 (Q1 ae)).2.1/\(((([]:List SV)=[]))/\((([]:List SV)=[])))/\(hk=(pj8 (Q1 ae)).2.2.1/\lw=(pj8 (Q1 ae)).2.2.2.1/\hd=(pj4 (pj8 (Q1 ae))).1/\rows=(pj4 (pj8 (Q1 ae))).2.1/\(([]:List SV)=[]))/\((gD ([]:List Dmg) d4.2.2 (0,(0,(0,(0,false))))).1=(pj4 (pj8 (Q1 ae))).2.2.1/\(gD ([]:List Dmg) d4.2.2 (0,(0,(0,(0,false))))).2.1=(pj4 (pj8 (Q1 ae))).2.2.2.1/\(gD ([]:List Dmg) d4.2.2 (0,(0,(0,(0,false))))).2.2.1=(Q1 (Q1 ae)).1/\(gD ([]:List Dmg) d4.2.2 (0,(0,(0,(0,false))))).2.2.2.1=(Q1 (Q1 ae)).2.1/\(gD ([]:List Dmg) d4.2.2 (0,(0,(0,(0,false))))).2.2.2.2=(Q1 (Q1 ae)).2.2.1/\(([]:List SV)=[]))/\True/\True/\True/\True/\True/\True/\True/\True/\True/\True/\True/\True/\True/\True/\True/\True/\True/\True/\True/\True/\True/\True/\True/\True/\True/\True/\True/\True/\True/\True/\True/\True/\True/\True/\True/\True/\True/\True/\True/\True/\True/\True/\(([]:List SV)=[])))/\(hk=(pj4 ae).2.2.1/\lw=(pj4 ae).2.2.2.1/\hd=(pj8 ae).1/\rows=(pj8 ae).2.1/\(([]:List SV)=[]))/\(d4.2.1=(pj8 ae).2.2.1)/\True/\((gD ([]:List Dmg) d4.2.2 (0,(0,(0,(0,false))))).1=(pj8 ae).2.2.2.1/\(gD ([]:List Dmg) d4.2.2 (0,(0,(0,(0,false))))).2.1=(pj4 (pj8 ae)).1/\(gD ([]:List Dmg) d4.2.2 (0,(0,(0,(0,false))))).2.2.1=(pj4 (pj8 ae)).2.1/\(gD ([]:List Dmg) d4.2.2 (0,(0,(0,(0,false))))).2.2.2.1=(pj4 (pj8 ae)).2.2.1/\(gD ([]:List Dmg) d4.2.2 (0,(0,(0,(0,false))))).2.2.2.2=(pj4 (pj8 ae)).2.2.2.1/\(([]:List SV)=[]))/\(([]:List Dmg)=(Q1 ae).1/\(List.isEmpty ([]:List Dmg))=(List.isEmpty (Q1 ae).1))/\True)) /\
    LoopP (λ(d10:(List Int)×Int) (iX:((List Int)×Int)->Prop) =>
     ((decide (d10.2<(pj4 ae).2.1))=true ->
      (0<=d10.2)/\(d10.2<(List.length d10.1))/\(0<=ae.2.2.1)/\(I64 (Je .i64 (1:Int) ae.2.2.1))/\(0<=d10.2)/\(d10.2<(List.length d10.1))/\((!(pj4 ae).1)=true ->
       (0<=d10.2)/\(d10.2<(List.length (sT d10.1 d10.2 (Qa .or .i64 (gD d10.1 d10.2 0) (Je .i64 (1:Int) ae.2.2.1)))))/\(0<=ae.2.2.1)/\(I64 (Je .i64 (1:Int) ae.2.2.1))/\(0<=d10.2)/\(d10.2<(List.length (sT d10.1 d10.2 (Qa .or .i64 (gD d10.1 d10.2 0) (Je .i64 (1:Int) ae.2.2.1)))))/\(I64 (d10.2+(1:Int)))/\(∃ d11:(List Int)×Int,((True/\True/\(pj4 ae).2.1=(pj4 ae).2.1/\(d10.2+(1:Int))=d11.2/\True)/\(((sT (sT d10.1 d10.2 (Qa .or .i64 (gD d10.1 d10.2 0) (Je .i64 (1:Int) ae.2.2.1))) d10.2 (Qa .xor .i64 (gD (sT d10.1 d10.2 (Qa .or .i64 (gD d10.1 d10.2 0) (Je .i64 (1:Int) ae.2.2.1))) d10.2 0) (Je .i64 (1:Int) ae.2.2.1)))=d11.1/\false=false)/\(ae.1=ae.1/\ae.2.1=ae.2.1/\ae.2.2.1=ae.2.2.1/\ae.2.2.2.1=ae.2.2.2.1/\(pj4 ae).1=(pj4 ae).1/\(([]:List SV)=[]))/\((Q1 (Q1 ae)).2.2.2=(Q1 (Q1 ae)).2.2.2/\(True/\True/\True/\True/\True/\True/\True/\True/\True/\True/\True/\True/\True/\True/\True/\True/\True/\True/\True/\True/\True/\True/\True/\True/\True/\True/\(Q1 ae).2.1=(Q1 ae).2.1/\(Q1 ae).2.2.1=(Q1 ae).2.2.1/\(Q1 ae).2.2.2.1=(Q1 ae).2.2.2.1/\True/\((pj4 (Q1 ae)).1=(pj4 (Q1 ae)).1/\(pj4 (Q1 ae)).2.1=(pj4 (Q1 ae)).2.1/\(pj4 (Q1 ae)).2.2.1=(pj4 (Q1 ae)).2.2.1/\(pj4 (Q1 ae)).2.2.2.1=(pj4 (Q1 ae)).2.2.2.1/\(pj8 (Q1 ae)).1=(pj8 (Q1 ae)).1/\(([]:List SV)=[]))/\True/\True/\(pj8 (Q1 ae)).2.1=(pj8 (Q1 ae)).2.1/\(((([]:List SV)=[]))/\((([]:List SV)=[])))/\((pj8 (Q1 ae)).2.2.1=(pj8 (Q1 ae)).2.2.1/\(pj8 (Q1 ae)).2.2.2.1=(pj8 (Q1 ae)).2.2.2.1/\(pj4 (pj8 (Q1 ae))).1=(pj4 (pj8 (Q1 ae))).1/\(pj4 (pj8 (Q1 ae))).2.1=(pj4 (pj8 (Q1 ae))).2.1/\(([]:List SV)=[]))/\((pj4 (pj8 (Q1 ae))).2.2.1=(pj4 (pj8 (Q1 ae))).2.2.1/\(pj4 (pj8 (Q1 ae))).2.2.2.1=(pj4 (pj8 (Q1 ae))).2.2.2.1/\(Q1 (Q1 ae)).1=(Q1 (Q1 ae)).1/\(Q1 (Q1 ae)).2.1=(Q1 (Q1 ae)).2.1/\(Q1 (Q1 ae)).2.2.1=(Q1 (Q1 ae)).2.2.1/\(([]:List SV)=[]))/\True/\True/\True/\True/\True/\True/\True/\True/\True/\True/\True/\True/\True/\True/\True/\True/\True/\True/\True/\True/\True/\True/\True/\True/\True/\True/\True/\True/\True/\True/\True/\True/\True/\True/\True/\True/\True/\True/\True/\True/\True/\True/\(([]:List SV)=[])))/\((pj4 ae).2.2.1=(pj4 ae).2.2.1/\(pj4 ae).2.2.2.1=(pj4 ae).2.2.2.1/\(pj8 ae).1=(pj8 ae).1/\(pj8 ae).2.1=(pj8 ae).2.1/\(([]:List SV)=[]))/\((pj8 ae).2.2.1=(pj8 ae).2.2.1)/\True/\((pj8 ae).2.2.2.1=(pj8 ae).2.2.2.1/\(pj4 (pj8 ae)).1=(pj4 (pj8 ae)).1/\(pj4 (pj8 ae)).2.1=(pj4 (pj8 ae)).2.1/\(pj4 (pj8 ae)).2.2.1=(pj4 (pj8 ae)).2.2.1/\(pj4 (pj8 ae)).2.2.2.1=(pj4 (pj8 ae)).2.2.2.1/\(([]:List SV)=[]))/\((Q1 ae).1=(Q1 ae).1/\(List.isEmpty (Q1 ae).1)=(List.isEmpty (Q1 ae).1))/\True))/\iX d11)) /\
      ((!(pj4 ae).1)=false ->
       (I64 (d10.2+(1:Int)))/\(∃ d12:(List Int)×Int,((True/\True/\(pj4 ae).2.1=(pj4 ae).2.1/\(d10.2+(1:Int))=d12.2/\True)/\(((sT d10.1 d10.2 (Qa .or .i64 (gD d10.1 d10.2 0) (Je .i64 (1:Int) ae.2.2.1)))=d12.1/\false=false)/\(ae.1=ae.1/\ae.2.1=ae.2.1/\ae.2.2.1=ae.2.2.1/\ae.2.2.2.1=ae.2.2.2.1/\(pj4 ae).1=(pj4 ae).1/\(([]:List SV)=[]))/\((Q1 (Q1 ae)).2.2.2=(Q1 (Q1 ae)).2.2.2/\(True/\True/\True/\True/\True/\True/\True/\True/\True/\True/\True/\True/\True/\True/\True/\True/\True/\True/\True/\True/\True/\True/\True/\True/\True/\True/\(Q1 ae).2.1=(Q1 ae).2.1/\(Q1 ae).2.2.1=(Q1 ae).2.2.1/\(Q1 ae).2.2.2.1=(Q1 ae).2.2.2.1/\True/\((pj4 (Q1 ae)).1=(pj4 (Q1 ae)).1/\(pj4 (Q1 ae)).2.1=(pj4 (Q1 ae)).2.1/\(pj4 (Q1 ae)).2.2.1=(pj4 (Q1 ae)).2.2.1/\(pj4 (Q1 ae)).2.2.2.1=(pj4 (Q1 ae)).2.2.2.1/\(pj8 (Q1 ae)).1=(pj8 (Q1 ae)).1/\(([]:List SV)=[]))/\True/\True/\(pj8 (Q1 ae)).2.1=(pj8 (Q1 ae)).2.1/\(((([]:List SV)=[]))/\((([]:List SV)=[])))/\((pj8 (Q1 ae)).2.2.1=(pj8 (Q1 ae)).2.2.1/\(pj8 (Q1 ae)).2.2.2.1=(pj8 (Q1 ae)).2.2.2.1/\(pj4 (pj8 (Q1 ae))).1=(pj4 (pj8 (Q1 ae))).1/\(pj4 (pj8 (Q1 ae))).2.1=(pj4 (pj8 (Q1 ae))).2.1/\(([]:List SV)=[]))/\((pj4 (pj8 (Q1 ae))).2.2.1=(pj4 (pj8 (Q1 ae))).2.2.1/\(pj4 (pj8 (Q1 ae))).2.2.2.1=(pj4 (pj8 (Q1 ae))).2.2.2.1/\(Q1 (Q1 ae)).1=(Q1 (Q1 ae)).1/\(Q1 (Q1 ae)).2.1=(Q1 (Q1 ae)).2.1/\(Q1 (Q1 ae)).2.2.1=(Q1 (Q1 ae)).2.2.1/\(([]:List SV)=[]))/\True/\True/\True/\True/\True/\True/\True/\True/\True/\True/\True/\True/\True/\True/\True/\True/\True/\True/\True/\True/\True/\True/\True/\True/\True/\True/\True/\True/\True/\True/\True/\True/\True/\True/\True/\True/\True/\True/\True/\True/\True/\True/\(([]:List SV)=[])))/\((pj4 ae).2.2.1=(pj4 ae).2.2.1/\(pj4 ae).2.2.2.1=(pj4 ae).2.2.2.1/\(pj8 ae).1=(pj8 ae).1/\(pj8 ae).2.1=(pj8 ae).2.1/\(([]:List SV)=[]))/\((pj8 ae).2.2.1=(pj8 ae).2.2.1)/\True/\((pj8 ae).2.2.2.1=(pj8 ae).2.2.2.1/\(pj4 (pj8 ae)).1=(pj4 (pj8 ae)).1/\(pj4 (pj8 ae)).2.1=(pj4 (pj8 ae)).2.1/\(pj4 (pj8 ae)).2.2.1=(pj4 (pj8 ae)).2.2.1/\(pj4 (pj8 ae)).2.2.2.1=(pj4 (pj8 ae)).2.2.2.1/\(([]:List SV)=[]))/\((Q1 ae).1=(Q1 ae).1/\(List.isEmpty (Q1 ae).1)=(List.isEmpty (Q1 ae).1))/\True))/\iX d12))) /\
     ((decide (d10.2<(pj4 ae).2.1))=false ->
      (Q1 (Q1 ae)).2.2.2=w7/\(I64 ((Q1 ae).2.2.1+(1:Int)))/\(∃ d13:(List Int)×(List (Int×Bool))×Int,((True/\True/\True/\True/\True/\(Q1 ae).2.1=(lI ([]:List Dmg))/\((Q1 ae).2.2.1+(1:Int))=d13.2.2/\True)/\(((pj4 ae).2.2.1=hk/\(pj4 ae).2.2.2.1=lw/\(pj8 ae).1=hd/\(pj8 ae).2.1=rows/\(([]:List SV)=[]))/\(d10.1=d13.1/\false=false)/\((pj8 ae).2.2.1=d13.2.1)/\True/\((Q1 ae).1=([]:List Dmg)/\(List.isEmpty (Q1 ae).1)=(List.isEmpty ([]:List Dmg)))/\True))/\q4 d13))) d100) /\
   ((gD ([]:List Dmg) d4.2.2 (0,(0,(0,(0,false))))).1=(3:Int) ->
    ∀ lF:List Value,∃ (af:(List Int)×Int×Int×Int×Int×Bool×Int×Int×(List Int)×Int×(List Int)×(List (Int×Bool))×Int×Int×Int×Int×Bool×(List (Int×Int×Int×Int×Bool))×Int×Int×Bool×Int×Int×Int×Int×Bool×Int×Int×(List Int)×Int×(List Int)×Int×Int×Int×Int×Bool×(List Value)) (cj:Int×Int),((True/\True/\(0:Int)=cj.1/\hd=(pj4 af).2.2.1/\(0:Int)=cj.2/\True)/\((d4.1=af.1/\false=false)/\((gD ([]:List Dmg) d4.2.2 (0,(0,(0,(0,false))))).1=af.2.1/\(gD ([]:List Dmg) d4.2.2 (0,(0,(0,(0,false))))).2.1=af.2.2.1/\(gD ([]:List Dmg) d4.2.2 (0,(0,(0,(0,false))))).2.2.1=af.2.2.2.1/\(gD ([]:List Dmg) d4.2.2 (0,(0,(0,(0,false))))).2.2.2.1=(pj4 af).1/\(gD ([]:List Dmg) d4.2.2 (0,(0,(0,(0,false))))).2.2.2.2=(pj4 af).2.1/\(([]:List SV)=[]))/\((pj4 (Q1 (Q1 af)))=lF/\(True/\True/\True/\True/\True/\True/\True/\True/\True/\True/\True/\True/\True/\True/\True/\True/\True/\True/\True/\True/\True/\True/\True/\True/\True/\True/\(lI ([]:List Dmg))=(Q1 af).2.2.1/\d4.2.2=(Q1 af).2.2.2.1/\(decide (d4.2.2<(lI ([]:List Dmg))))=(pj4 (Q1 af)).1/\True/\((gD ([]:List Dmg) d4.2.2 (0,(0,(0,(0,false))))).1=(pj4 (Q1 af)).2.1/\(gD ([]:List Dmg) d4.2.2 (0,(0,(0,(0,false))))).2.1=(pj4 (Q1 af)).2.2.1/\(gD ([]:List Dmg) d4.2.2 (0,(0,(0,(0,false))))).2.2.1=(pj4 (Q1 af)).2.2.2.1/\(gD ([]:List Dmg) d4.2.2 (0,(0,(0,(0,false))))).2.2.2.1=(pj8 (Q1 af)).1/\(gD ([]:List Dmg) d4.2.2 (0,(0,(0,(0,false))))).2.2.2.2=(pj8 (Q1 af)).2.1/\(([]:List SV)=[]))/\True/\True/\(3:Int)=(pj8 (Q1 af)).2.2.1/\(((([]:List SV)=[]))/\((([]:List SV)=[])))/\(hk=(pj8 (Q1 af)).2.2.2.1/\lw=(pj4 (pj8 (Q1 af))).1/\hd=(pj4 (pj8 (Q1 af))).2.1/\rows=(pj4 (pj8 (Q1 af))).2.2.1/\(([]:List SV)=[]))/\((gD ([]:List Dmg) d4.2.2 (0,(0,(0,(0,false))))).1=(pj4 (pj8 (Q1 af))).2.2.2.1/\(gD ([]:List Dmg) d4.2.2 (0,(0,(0,(0,false))))).2.1=(Q1 (Q1 af)).1/\(gD ([]:List Dmg) d4.2.2 (0,(0,(0,(0,false))))).2.2.1=(Q1 (Q1 af)).2.1/\(gD ([]:List Dmg) d4.2.2 (0,(0,(0,(0,false))))).2.2.2.1=(Q1 (Q1 af)).2.2.1/\(gD ([]:List Dmg) d4.2.2 (0,(0,(0,(0,false))))).2.2.2.2=(Q1 (Q1 af)).2.2.2.1/\(([]:List SV)=[]))/\True/\True/\True/\True/\True/\True/\True/\True/\True/\True/\True/\True/\True/\True/\True/\True/\True/\True/\True/\True/\True/\True/\True/\True/\True/\True/\True/\True/\True/\True/\True/\True/\True/\True/\True/\True/\True/\True/\True/\True/\True/\True/\(([]:List SV)=[])))/\(hk=(pj4 af).2.2.2.1/\lw=(pj8 af).1/\hd=(pj8 af).2.1/\rows=(pj8 af).2.2.1/\(([]:List SV)=[]))/\(d4.2.1=(pj8 af).2.2.2.1)/\True/\((gD ([]:List Dmg) d4.2.2 (0,(0,(0,(0,false))))).1=(pj4 (pj8 af)).1/\(gD ([]:List Dmg) d4.2.2 (0,(0,(0,(0,false))))).2.1=(pj4 (pj8 af)).2.1/\(gD ([]:List Dmg) d4.2.2 (0,(0,(0,(0,false))))).2.2.1=(pj4 (pj8 af)).2.2.1/\(gD ([]:List Dmg) d4.2.2 (0,(0,(0,(0,false))))).2.2.2.1=(pj4 (pj8 af)).2.2.2.1/\(gD ([]:List Dmg) d4.2.2 (0,(0,(0,(0,false))))).2.2.2.2=(Q1 af).1/\(([]:List SV)=[]))/\(([]:List Dmg)=(Q1 af).2.1/\(List.isEmpty ([]:List Dmg))=(List.isEmpty (Q1 af).2.1))/\True)) /\
    LoopP (λ(d17:Int×Int) (lG:(Int×Int)->Prop) =>
     ((decide (d17.2<(pj4 af).2.2.1))=true ->
      (0<=(1:Int))/\(I64 (Je .i64 d17.1 (1:Int)))/\(0<=af.2.2.1)/\(af.2.2.1<(List.length af.1))/\(0<=d17.2)/\(I64 (d17.2+(1:Int)))/\(∃ d18:Int×Int,((True/\True/\(Qa .or .i64 (Je .i64 d17.1 (1:Int)) (Qa .and .i64 (Jj .i64 (gD af.1 af.2.2.1 0) d17.2) (1:Int)))=d18.1/\(pj4 af).2.2.1=(pj4 af).2.2.1/\(d17.2+(1:Int))=d18.2/\True)/\((af.1=af.1/\false=false)/\(af.2.1=af.2.1/\af.2.2.1=af.2.2.1/\af.2.2.2.1=af.2.2.2.1/\(pj4 af).1=(pj4 af).1/\(pj4 af).2.1=(pj4 af).2.1/\(([]:List SV)=[]))/\((pj4 (Q1 (Q1 af)))=(pj4 (Q1 (Q1 af)))/\(True/\True/\True/\True/\True/\True/\True/\True/\True/\True/\True/\True/\True/\True/\True/\True/\True/\True/\True/\True/\True/\True/\True/\True/\True/\True/\(Q1 af).2.2.1=(Q1 af).2.2.1/\(Q1 af).2.2.2.1=(Q1 af).2.2.2.1/\(pj4 (Q1 af)).1=(pj4 (Q1 af)).1/\True/\((pj4 (Q1 af)).2.1=(pj4 (Q1 af)).2.1/\(pj4 (Q1 af)).2.2.1=(pj4 (Q1 af)).2.2.1/\(pj4 (Q1 af)).2.2.2.1=(pj4 (Q1 af)).2.2.2.1/\(pj8 (Q1 af)).1=(pj8 (Q1 af)).1/\(pj8 (Q1 af)).2.1=(pj8 (Q1 af)).2.1/\(([]:List SV)=[]))/\True/\True/\(pj8 (Q1 af)).2.2.1=(pj8 (Q1 af)).2.2.1/\(((([]:List SV)=[]))/\((([]:List SV)=[])))/\((pj8 (Q1 af)).2.2.2.1=(pj8 (Q1 af)).2.2.2.1/\(pj4 (pj8 (Q1 af))).1=(pj4 (pj8 (Q1 af))).1/\(pj4 (pj8 (Q1 af))).2.1=(pj4 (pj8 (Q1 af))).2.1/\(pj4 (pj8 (Q1 af))).2.2.1=(pj4 (pj8 (Q1 af))).2.2.1/\(([]:List SV)=[]))/\((pj4 (pj8 (Q1 af))).2.2.2.1=(pj4 (pj8 (Q1 af))).2.2.2.1/\(Q1 (Q1 af)).1=(Q1 (Q1 af)).1/\(Q1 (Q1 af)).2.1=(Q1 (Q1 af)).2.1/\(Q1 (Q1 af)).2.2.1=(Q1 (Q1 af)).2.2.1/\(Q1 (Q1 af)).2.2.2.1=(Q1 (Q1 af)).2.2.2.1/\(([]:List SV)=[]))/\True/\True/\True/\True/\True/\True/\True/\True/\True/\True/\True/\True/\True/\True/\True/\True/\True/\True/\True/\True/\True/\True/\True/\True/\True/\True/\True/\True/\True/\True/\True/\True/\True/\True/\True/\True/\True/\True/\True/\True/\True/\True/\(([]:List SV)=[])))/\((pj4 af).2.2.2.1=(pj4 af).2.2.2.1/\(pj8 af).1=(pj8 af).1/\(pj8 af).2.1=(pj8 af).2.1/\(pj8 af).2.2.1=(pj8 af).2.2.1/\(([]:List SV)=[]))/\((pj8 af).2.2.2.1=(pj8 af).2.2.2.1)/\True/\((pj4 (pj8 af)).1=(pj4 (pj8 af)).1/\(pj4 (pj8 af)).2.1=(pj4 (pj8 af)).2.1/\(pj4 (pj8 af)).2.2.1=(pj4 (pj8 af)).2.2.1/\(pj4 (pj8 af)).2.2.2.1=(pj4 (pj8 af)).2.2.2.1/\(Q1 af).1=(Q1 af).1/\(([]:List SV)=[]))/\((Q1 af).2.1=(Q1 af).2.1/\(List.isEmpty (Q1 af).2.1)=(List.isEmpty (Q1 af).2.1))/\True))/\lG d18)) /\
     ((decide (d17.2<(pj4 af).2.2.1))=false ->
      (0<=af.2.2.1)/\(af.2.2.1<(List.length af.1))/\(pj4 (Q1 (Q1 af)))=lF/\(I64 ((Q1 af).2.2.2.1+(1:Int)))/\(∃ d19:(List Int)×(List (Int×Bool))×Int,((True/\True/\True/\True/\True/\(Q1 af).2.2.1=(lI ([]:List Dmg))/\((Q1 af).2.2.2.1+(1:Int))=d19.2.2/\True)/\(((pj4 af).2.2.2.1=hk/\(pj8 af).1=lw/\(pj8 af).2.1=hd/\(pj8 af).2.2.1=rows/\(([]:List SV)=[]))/\((sT af.1 af.2.2.1 d17.1)=d19.1/\false=false)/\((pj8 af).2.2.2.1=d19.2.1)/\True/\((Q1 af).2.1=([]:List Dmg)/\(List.isEmpty (Q1 af).2.1)=(List.isEmpty ([]:List Dmg)))/\True))/\q4 d19))) cj) /\
   ((gD ([]:List Dmg) d4.2.2 (0,(0,(0,(0,false))))).1=(4:Int) ->
    ∀ mz:List Value,(I64 ((gD ([]:List Dmg) d4.2.2 (0,(0,(0,(0,false))))).2.1+(1:Int)))/\((lI d4.1)≠0)/\(0<=(gD ([]:List Dmg) d4.2.2 (0,(0,(0,(0,false))))).2.1)/\((gD ([]:List Dmg) d4.2.2 (0,(0,(0,(0,false))))).2.1<(List.length d4.1))/\(0<=(Int.tmod ((gD ([]:List Dmg) d4.2.2 (0,(0,(0,(0,false))))).2.1+(1:Int)) (lI d4.1)))/\((Int.tmod ((gD ([]:List Dmg) d4.2.2 (0,(0,(0,(0,false))))).2.1+(1:Int)) (lI d4.1))<(List.length d4.1))/\(0<=(gD ([]:List Dmg) d4.2.2 (0,(0,(0,(0,false))))).2.1)/\((gD ([]:List Dmg) d4.2.2 (0,(0,(0,(0,false))))).2.1<(List.length d4.1))/\(0<=(Int.tmod ((gD ([]:List Dmg) d4.2.2 (0,(0,(0,(0,false))))).2.1+(1:Int)) (lI d4.1)))/\((Int.tmod ((gD ([]:List Dmg) d4.2.2 (0,(0,(0,(0,false))))).2.1+(1:Int)) (lI d4.1))<(List.length (List.set d4.1 (Int.toNat (gD ([]:List Dmg) d4.2.2 (0,(0,(0,(0,false))))).2.1) (gD d4.1 (Int.tmod ((gD ([]:List Dmg) d4.2.2 (0,(0,(0,(0,false))))).2.1+(1:Int)) (lI d4.1)) 0))))/\mz=mz/\(I64 (d4.2.2+(1:Int)))/\(∃ d21:(List Int)×(List (Int×Bool))×Int,((True/\True/\True/\True/\True/\(lI ([]:List Dmg))=(lI ([]:List Dmg))/\(d4.2.2+(1:Int))=d21.2.2/\True)/\((hk=hk/\lw=lw/\hd=hd/\rows=rows/\(([]:List SV)=[]))/\((sT (List.set d4.1 (Int.toNat (gD ([]:List Dmg) d4.2.2 (0,(0,(0,(0,false))))).2.1) (gD d4.1 (Int.tmod ((gD ([]:List Dmg) d4.2.2 (0,(0,(0,(0,false))))).2.1+(1:Int)) (lI d4.1)) 0)) (Int.tmod ((gD ([]:List Dmg) d4.2.2 (0,(0,(0,(0,false))))).2.1+(1:Int)) (lI d4.1)) (List.getD d4.1 (Int.toNat (gD ([]:List Dmg) d4.2.2 (0,(0,(0,(0,false))))).2.1) 0))=d21.1/\false=false)/\(d4.2.1=d21.2.1)/\True/\(([]:List Dmg)=([]:List Dmg)/\(List.isEmpty ([]:List Dmg))=(List.isEmpty ([]:List Dmg)))/\True))/\q4 d21)) /\
   ((gD ([]:List Dmg) d4.2.2 (0,(0,(0,(0,false))))).1=(5:Int) ->
    ∀ mA:List Value,mA=mA/\(I64 (d4.2.2+(1:Int)))/\(∃ d23:(List Int)×(List (Int×Bool))×Int,((True/\True/\True/\True/\True/\(lI ([]:List Dmg))=(lI ([]:List Dmg))/\(d4.2.2+(1:Int))=d23.2.2/\True)/\((hk=hk/\lw=lw/\hd=hd/\rows=rows/\(([]:List SV)=[]))/\(d4.1=d23.1/\false=false)/\((Q0w (.i .i64) d4.2.1 (gD ([]:List Dmg) d4.2.2 (0,(0,(0,(0,false))))).2.2.2.1 true)=d23.2.1)/\True/\(([]:List Dmg)=([]:List Dmg)/\(List.isEmpty ([]:List Dmg))=(List.isEmpty ([]:List Dmg)))/\True))/\q4 d23)) /\
   True) /\
  ((decide (d4.2.2<(lI ([]:List Dmg))))=false ->
   (lw.length<=110/\d4.1.length<=110)/\∃ (eS:(List (Int×Bool))×Int) (eT:(List (List UInt8))×Int),((True/\True/\True/\(lI (ZV hk lw hd d4.1))=eS.2/\(0:Int)=eT.2/\True)/\(((ZV hk lw hd d4.1)=eT.1/\(ZV hk lw hd d4.1).isEmpty=(List.isEmpty eT.1))/\(d4.2.1=eS.1)/\True)) /\
   LoopP (λ(d26:(List (List UInt8))×Int) (rv:((List (List UInt8))×Int)->Prop) =>
    ((decide (d26.2<eS.2))=true ->
     (0<=d26.2)/\(d26.2<(List.length d26.1))/\((List.length (gD d26.1 d26.2 []))<=4611686018427387904)/\∃ (aS:(List (List UInt8))×(List (Int×Bool))×Int×Int×Int×(List (Int×Bool))) (fX:(List Int)×(List Nat)),((True/\True/\d26.2=aS.2.2.1/\True/\True/\eS.2=aS.2.2.2.1/\d26.2=(pj4 aS).1/\True/\True)/\((d26.1=aS.1/\(List.isEmpty d26.1)=(List.isEmpty aS.1))/\(eS.1=aS.2.1)/\((List.map (λ(b:UInt8)=>(UInt8.toNat b:Int)) (gD d26.1 d26.2 []))=fX.1/\false=false)/\(eS.1=(pj4 aS).2/\([]:List Nat)=fX.2)/\True)) /\
     LoopP (λ(d29:(List Int)×(List Nat)) (ry:((List Int)×(List Nat))->Prop) =>
      ((∀ r:Nat,r<(List.length (pj4 aS).2)->r∈d29.2) ->
       (0<=aS.2.2.1)/\(aS.2.2.1<(List.length aS.1))/\(I64 ((pj4 aS).1+(1:Int)))/\(∃ d31:(List (List UInt8))×Int,((True/\True/\True/\aS.2.2.2.1=eS.2/\((pj4 aS).1+(1:Int))=d31.2/\True)/\(((sT aS.1 aS.2.2.1 (M4 d29.1))=d31.1/\(List.isEmpty aS.1)=(List.isEmpty d31.1))/\(aS.2.1=eS.1)/\True))/\rv d31)) /\
      (∀ fY:Nat,fY<(List.length (pj4 aS).2)->fY∉d29.2 ->
       ((d29.2++[fY])≠[])/\(0<=(List.getD (pj4 aS).2 (List.getLastD (d29.2++[fY]) 0) (0,false)).1)/\((List.getD (pj4 aS).2 (List.getLastD (d29.2++[fY]) 0) (0,false)).1<(List.length d29.1))/\(∃ d32:(List Int)×(List Nat),((True/\True/\aS.2.2.1=aS.2.2.1/\True/\True/\aS.2.2.2.1=aS.2.2.2.1/\(pj4 aS).1=(pj4 aS).1/\True/\True)/\((aS.1=aS.1/\(List.isEmpty aS.1)=(List.isEmpty aS.1))/\(aS.2.1=aS.2.1)/\((List.set d29.1 (Int.toNat (List.getD (pj4 aS).2 (List.getLastD (d29.2++[fY]) 0) (0,false)).1) (46:Int))=d32.1/\false=false)/\((pj4 aS).2=(pj4 aS).2/\(d29.2++[fY])=d32.2)/\True))/\ry d32))) fX) /\
    ((decide (d26.2<eS.2))=false ->
     (True/\((d26.1=(Wy lw hd rows [])/\(List.isEmpty d26.1)=false)/\True)))) eT)) d40
def W4:Cx:=⟨[(1000001,(.i .i64))],[],3,[],0,[],[],[],[],false,[],[],[],[]⟩
def W5:List (Nat×LoopAnn):=[]
def Xq:Cx:=⟨[],[],18,[],0,[],[],[],[],false,[],[],[],[]⟩
def Xt:List (Nat×LoopAnn):=[]
def Xx:Cx:=⟨[],[],36,[],0,[],[],[],[],false,[],[],[],[]⟩
def Xz:List (Nat×LoopAnn):=[(0,⟨Int×Int×Int×Int×Bool×Int×Int×(List Int)×Int×(List Int)×(List (Int×Bool))×Int×Int×Int×Int×Bool×(List (Int×Int×Int×Int×Bool))×Int×Int×Bool×Int×Int×Int×Int×Bool×Int×Int×(List Int)×Int×(List Int)×Int×Int×Int×Int×Bool×(List Value),(List Int)×Int,[2,5,10,11],λe x=>[.lst 18,.box 4000005 0,.val (.i .i64) e.2.2.2.2.2.1,.val (.i .i64) x.2],λe x=>[(18,.slot 2,.lst 3 (.i .i64) x.1 false),(4000005,.slot 5,.cells [.val (.i .i64) e.1,.val (.i .i64) e.2.1,.val (.i .i64) e.2.2.1,.val (.i .i64) e.2.2.2.1,.val .bo e.2.2.2.2.1] (some 43)),(3999999,.key 3999999,.stk [.any,.any,.box 2 0,.any,.any,.lst 18,.map 19,.map 2500001,.any,.box 9 0,.any,.any,.any,.any,.any,.any,.any,.any,.any,.any,.any,.any,.any,.any,.any,.lst 21,.val (.i .i64) e.2.2.2.2.2.2.2.2.2.2.2.2.2.2.2.2.2.1,.val (.i .i64) e.2.2.2.2.2.2.2.2.2.2.2.2.2.2.2.2.2.2.1,.val .bo e.2.2.2.2.2.2.2.2.2.2.2.2.2.2.2.2.2.2.2.1,.any,.agg [.val (.i .i64) e.2.2.2.2.2.2.2.2.2.2.2.2.2.2.2.2.2.2.2.2.1,.val (.i .i64) e.2.2.2.2.2.2.2.2.2.2.2.2.2.2.2.2.2.2.2.2.2.1,.val (.i .i64) e.2.2.2.2.2.2.2.2.2.2.2.2.2.2.2.2.2.2.2.2.2.2.1,.val (.i .i64) e.2.2.2.2.2.2.2.2.2.2.2.2.2.2.2.2.2.2.2.2.2.2.2.1,.val .bo e.2.2.2.2.2.2.2.2.2.2.2.2.2.2.2.2.2.2.2.2.2.2.2.2.1],.map 2500001,.box 9 0,.val (.i .i64) e.2.2.2.2.2.2.2.2.2.2.2.2.2.2.2.2.2.2.2.2.2.2.2.2.2.1,.fn 82 [] [],.agg [.val (.i .i64) e.2.2.2.2.2.2.2.2.2.2.2.2.2.2.2.2.2.2.2.2.2.2.2.2.2.2.1,.val (.list (.i .i64)) e.2.2.2.2.2.2.2.2.2.2.2.2.2.2.2.2.2.2.2.2.2.2.2.2.2.2.2.1,.val (.i .i64) e.2.2.2.2.2.2.2.2.2.2.2.2.2.2.2.2.2.2.2.2.2.2.2.2.2.2.2.2.1,.val (.list (.i .i64)) e.2.2.2.2.2.2.2.2.2.2.2.2.2.2.2.2.2.2.2.2.2.2.2.2.2.2.2.2.2.1],.agg [.val (.i .i64) e.2.2.2.2.2.2.2.2.2.2.2.2.2.2.2.2.2.2.2.2.2.2.2.2.2.2.2.2.2.2.1,.val (.i .i64) e.2.2.2.2.2.2.2.2.2.2.2.2.2.2.2.2.2.2.2.2.2.2.2.2.2.2.2.2.2.2.2.1,.val (.i .i64) e.2.2.2.2.2.2.2.2.2.2.2.2.2.2.2.2.2.2.2.2.2.2.2.2.2.2.2.2.2.2.2.2.1,.val (.i .i64) e.2.2.2.2.2.2.2.2.2.2.2.2.2.2.2.2.2.2.2.2.2.2.2.2.2.2.2.2.2.2.2.2.2.1,.val .bo e.2.2.2.2.2.2.2.2.2.2.2.2.2.2.2.2.2.2.2.2.2.2.2.2.2.2.2.2.2.2.2.2.2.2.1],.lst 18,.map 19,.any,.any,.any,.any,.any,.any,.any,.any,.any,.any,.any,.any,.any,.any,.any,.any,.any,.any,.any,.any,.any,.any,.any,.any,.any,.any,.any,.any,.any,.any,.any,.any,.any,.any,.any,.any,.any,.any,.any,.any] e.2.2.2.2.2.2.2.2.2.2.2.2.2.2.2.2.2.2.2.2.2.2.2.2.2.2.2.2.2.2.2.2.2.2.2),(2,.key 2,.cells [.val (.i .i64) e.2.2.2.2.2.2.1,.val (.list (.i .i64)) e.2.2.2.2.2.2.2.1,.val (.i .i64) e.2.2.2.2.2.2.2.2.1,.val (.list (.i .i64)) e.2.2.2.2.2.2.2.2.2.1] (some 76)),(19,.key 19,.map (.i .i64) .bo e.2.2.2.2.2.2.2.2.2.2.1),(2500001,.key 2500001,.fm .i64 [(1,81),(2,82),(3,83),(4,84),(5,85)]),(9,.key 9,.cells [.val (.i .i64) e.2.2.2.2.2.2.2.2.2.2.2.1,.val (.i .i64) e.2.2.2.2.2.2.2.2.2.2.2.2.1,.val (.i .i64) e.2.2.2.2.2.2.2.2.2.2.2.2.2.1,.val (.i .i64) e.2.2.2.2.2.2.2.2.2.2.2.2.2.2.1,.val .bo e.2.2.2.2.2.2.2.2.2.2.2.2.2.2.2.1] (some 43)),(21,.key 21,.lst 43 (.pair (.i .i64) (.pair (.i .i64) (.pair (.i .i64) (.pair (.i .i64) .bo)))) e.2.2.2.2.2.2.2.2.2.2.2.2.2.2.2.2.1 (List.isEmpty e.2.2.2.2.2.2.2.2.2.2.2.2.2.2.2.2.1))]⟩)]
def Xk:Cx:=⟨[],[],34,[],0,[],[],[],[],false,[],[],[],[]⟩
def Xn:List (Nat×LoopAnn):=[(0,⟨(List Int)×Int×Int×Int×Int×Bool×Int×Int×(List Int)×Int×(List Int)×(List (Int×Bool))×Int×Int×Int×Int×Bool×(List (Int×Int×Int×Int×Bool))×Int×Int×Bool×Int×Int×Int×Int×Bool×Int×Int×(List Int)×Int×(List Int)×Int×Int×Int×Int×Bool×(List Value),Int×Int,[2,5,8,13,14],λe x=>[.lst 18,.box 4000005 0,.val (.i .i64) x.1,.val (.i .i64) e.2.2.2.2.2.2.1,.val (.i .i64) x.2],λe x=>[(18,.slot 2,.lst 3 (.i .i64) e.1 false),(4000005,.slot 5,.cells [.val (.i .i64) e.2.1,.val (.i .i64) e.2.2.1,.val (.i .i64) e.2.2.2.1,.val (.i .i64) e.2.2.2.2.1,.val .bo e.2.2.2.2.2.1] (some 43)),(3999999,.key 3999999,.stk [.any,.any,.box 2 0,.any,.any,.lst 18,.map 19,.map 2500001,.any,.box 9 0,.any,.any,.any,.any,.any,.any,.any,.any,.any,.any,.any,.any,.any,.any,.any,.lst 21,.val (.i .i64) e.2.2.2.2.2.2.2.2.2.2.2.2.2.2.2.2.2.2.1,.val (.i .i64) e.2.2.2.2.2.2.2.2.2.2.2.2.2.2.2.2.2.2.2.1,.val .bo e.2.2.2.2.2.2.2.2.2.2.2.2.2.2.2.2.2.2.2.2.1,.any,.agg [.val (.i .i64) e.2.2.2.2.2.2.2.2.2.2.2.2.2.2.2.2.2.2.2.2.2.1,.val (.i .i64) e.2.2.2.2.2.2.2.2.2.2.2.2.2.2.2.2.2.2.2.2.2.2.1,.val (.i .i64) e.2.2.2.2.2.2.2.2.2.2.2.2.2.2.2.2.2.2.2.2.2.2.2.1,.val (.i .i64) e.2.2.2.2.2.2.2.2.2.2.2.2.2.2.2.2.2.2.2.2.2.2.2.2.1,.val .bo e.2.2.2.2.2.2.2.2.2.2.2.2.2.2.2.2.2.2.2.2.2.2.2.2.2.1],.map 2500001,.box 9 0,.val (.i .i64) e.2.2.2.2.2.2.2.2.2.2.2.2.2.2.2.2.2.2.2.2.2.2.2.2.2.2.1,.fn 83 [] [],.agg [.val (.i .i64) e.2.2.2.2.2.2.2.2.2.2.2.2.2.2.2.2.2.2.2.2.2.2.2.2.2.2.2.1,.val (.list (.i .i64)) e.2.2.2.2.2.2.2.2.2.2.2.2.2.2.2.2.2.2.2.2.2.2.2.2.2.2.2.2.1,.val (.i .i64) e.2.2.2.2.2.2.2.2.2.2.2.2.2.2.2.2.2.2.2.2.2.2.2.2.2.2.2.2.2.1,.val (.list (.i .i64)) e.2.2.2.2.2.2.2.2.2.2.2.2.2.2.2.2.2.2.2.2.2.2.2.2.2.2.2.2.2.2.1],.agg [.val (.i .i64) e.2.2.2.2.2.2.2.2.2.2.2.2.2.2.2.2.2.2.2.2.2.2.2.2.2.2.2.2.2.2.2.1,.val (.i .i64) e.2.2.2.2.2.2.2.2.2.2.2.2.2.2.2.2.2.2.2.2.2.2.2.2.2.2.2.2.2.2.2.2.1,.val (.i .i64) e.2.2.2.2.2.2.2.2.2.2.2.2.2.2.2.2.2.2.2.2.2.2.2.2.2.2.2.2.2.2.2.2.2.1,.val (.i .i64) e.2.2.2.2.2.2.2.2.2.2.2.2.2.2.2.2.2.2.2.2.2.2.2.2.2.2.2.2.2.2.2.2.2.2.1,.val .bo e.2.2.2.2.2.2.2.2.2.2.2.2.2.2.2.2.2.2.2.2.2.2.2.2.2.2.2.2.2.2.2.2.2.2.2.1],.lst 18,.map 19,.any,.any,.any,.any,.any,.any,.any,.any,.any,.any,.any,.any,.any,.any,.any,.any,.any,.any,.any,.any,.any,.any,.any,.any,.any,.any,.any,.any,.any,.any,.any,.any,.any,.any,.any,.any,.any,.any,.any,.any] e.2.2.2.2.2.2.2.2.2.2.2.2.2.2.2.2.2.2.2.2.2.2.2.2.2.2.2.2.2.2.2.2.2.2.2.2),(2,.key 2,.cells [.val (.i .i64) e.2.2.2.2.2.2.2.1,.val (.list (.i .i64)) e.2.2.2.2.2.2.2.2.1,.val (.i .i64) e.2.2.2.2.2.2.2.2.2.1,.val (.list (.i .i64)) e.2.2.2.2.2.2.2.2.2.2.1] (some 76)),(19,.key 19,.map (.i .i64) .bo e.2.2.2.2.2.2.2.2.2.2.2.1),(2500001,.key 2500001,.fm .i64 [(1,81),(2,82),(3,83),(4,84),(5,85)]),(9,.key 9,.cells [.val (.i .i64) e.2.2.2.2.2.2.2.2.2.2.2.2.1,.val (.i .i64) e.2.2.2.2.2.2.2.2.2.2.2.2.2.1,.val (.i .i64) e.2.2.2.2.2.2.2.2.2.2.2.2.2.2.1,.val (.i .i64) e.2.2.2.2.2.2.2.2.2.2.2.2.2.2.2.1,.val .bo e.2.2.2.2.2.2.2.2.2.2.2.2.2.2.2.2.1] (some 43)),(21,.key 21,.lst 43 (.pair (.i .i64) (.pair (.i .i64) (.pair (.i .i64) (.pair (.i .i64) .bo)))) e.2.2.2.2.2.2.2.2.2.2.2.2.2.2.2.2.2.1 (List.isEmpty e.2.2.2.2.2.2.2.2.2.2.2.2.2.2.2.2.2.1))]⟩)]
def Xp:Cx:=⟨[],[],35,[],0,[],[],[],[],false,[],[],[],[]⟩
def Xs:List (Nat×LoopAnn):=[]
def Xo:Cx:=⟨[],[],11,[],0,[],[],[],[],false,[],[],[],[]⟩
def Xu:List (Nat×LoopAnn):=[]
def NY:Cx:=⟨[(1000019,(.pair (.i .i64) .bo))],[(50,XF),(51,CSp.or Qx Ql),(53,X0),(24,NS)],79,[4002117,4054019,3000066],0,[(52,Qe),(55,EW W4 (λ_=>W5) c55 [.tmp 0] 3),(81,EW Xq (λ_=>Xt) c81 [] 18),(82,EW Xx (λ_=>Xz) c82 [] 36),(83,EW Xk (λ_=>Xn) c83 [] 34),(84,EW Xp (λ_=>Xs) c84 [] 35),(85,EW Xo (λ_=>Xu) c85 [] 11)],[],[],[],false,[],[],[33,54,66],[]⟩
def TM (hk:Int) (lw:List Int) (hd:Int) (rows:List Int):List (Nat×LoopAnn):=[(0,⟨Unit,(List Int)×(List (Int×Bool))×Int,[2,5,6,7,25,26,27],λe x=>[.box 2 0,.lst 18,.map 19,.map 2500001,.lst 21,.val (.i .i64) (((List.length ([]:List Dmg)):Nat):Int),.val (.i .i64) x.2.2],λe x=>[(2,.slot 2,.cells [.val (.i .i64) hk,.val (.list (.i .i64)) lw,.val (.i .i64) hd,.val (.list (.i .i64)) rows] (some 76)),(18,.slot 5,.lst 3 (.i .i64) x.1 false),(19,.slot 6,.map (.i .i64) .bo x.2.1),(2500001,.slot 7,.fm .i64 [(1,81),(2,82),(3,83),(4,84),(5,85)]),(21,.slot 25,.lst 43 (.pair (.i .i64) (.pair (.i .i64) (.pair (.i .i64) (.pair (.i .i64) .bo)))) ([]:List Dmg) (List.isEmpty ([]:List Dmg)))]⟩),
 (2,⟨(List (Int×Bool))×Int,(List (List UInt8))×Int,[4,6,54,55,56],λe x=>[.lst 51,.map 19,.lst 51,.val (.i .i64) e.2,.val (.i .i64) x.2],λe x=>[(51,.slot 4,.lst 9 .st x.1 (List.isEmpty x.1)),(19,.slot 6,.rmap (.i .i64) .bo e.1)]⟩),
 (4,⟨(List (List UInt8))×(List (Int×Bool))×Int×Int×Int×(List (Int×Bool)),(List Int)×(List Nat),[4,6,10,12,54,55,56,64],λe x=>[.lst 51,.map 19,.val (.i .i64) e.2.2.1,.lst 62,.lst 51,.val (.i .i64) e.2.2.2.1,.val (.i .i64) e.2.2.2.2.1,.box 64 0],λe x=>[(51,.slot 4,.lst 9 .st e.1 (List.isEmpty e.1)),(19,.slot 6,.rmap (.i .i64) .bo e.2.1),(62,.slot 12,.lst 5 (.i .u8) x.1 false),(64,.slot 64,.iter (.i .i64) .bo e.2.2.2.2.2 x.2)]⟩)]
theorem TF (d:(Int×List Int×Int×List Int)×Unit):gwp (NY) (TM d.1.1 d.1.2.1 d.1.2.2.1 d.1.2.2.2) c27 0 (Yh [.tmp 4] (UP d) (UT d)) (Qo 79 (AL.can NL d))=Y3 d.1.1 d.1.2.1 d.1.2.2.1 d.1.2.2.2:=by kernel_rfl
abbrev Tc:Prop:=OkC Tryz.prog 27 JS
theorem TO (h:∀ (hk:Int) (lw:List Int) (hd:Int) (rows:List Int),(Q7 hk lw hd rows=0/\lw.length<=110/\rows.length<=110)->Y3 hk lw hd rows):OkC Tryz.prog 27 JS :=
 Qu Z5c mixed (C:=NY) (V:=λ(d:(Int×List Int×Int×List Int)×Unit)=>Y3 d.1.1 d.1.2.1 d.1.2.2.1 d.1.2.2.2) ⟨(.cons Vj (.cons (OkC.or ZM Zi) (.cons YQ (.cons Hm .nil)))),(XsOk.cons QV (XsOk.cons (Wc Z5r mixed (C:=W4) ⟨.nil,XsOk.nil,ItsOk.nil,YlOk.nil,IysOk.nil,XfOk.nil⟩ (λ_=>W5)) (XsOk.cons (Wc Z5g mixed (C:=Xq) ⟨.nil,XsOk.nil,ItsOk.nil,YlOk.nil,IysOk.nil,XfOk.nil⟩ (λ_=>Xt)) (XsOk.cons (Wc Z59 mixed (C:=Xx) ⟨.nil,XsOk.nil,ItsOk.nil,YlOk.nil,IysOk.nil,XfOk.nil⟩ (λ_=>Xz)) (XsOk.cons (Wc Z51 mixed (C:=Xk) ⟨.nil,XsOk.nil,ItsOk.nil,YlOk.nil,IysOk.nil,XfOk.nil⟩ (λ_=>Xn)) (XsOk.cons (Wc Z4x mixed (C:=Xp) ⟨.nil,XsOk.nil,ItsOk.nil,YlOk.nil,IysOk.nil,XfOk.nil⟩ (λ_=>Xs)) (XsOk.cons (Wc Z55 mixed (C:=Xo) ⟨.nil,XsOk.nil,ItsOk.nil,YlOk.nil,IysOk.nil,XfOk.nil⟩ (λ_=>Xu)) XsOk.nil))))))),ItsOk.nil,YlOk.nil,IysOk.nil,XfOk.nil⟩ (TF) λd hp=>h d.1.1 d.1.2.1 d.1.2.2.1 d.1.2.2.2 hp
def KM:AL ((Int×List Int×Int×List Int)×List (Int×Int×Int×Int×Bool)):=(.cons (.agg (.cons (.k (.i .i64)) (.cons (.k (.list (.i .i64))) (.cons (.k (.i .i64)) (.one (.k (.list (.i .i64)))))))) (.one (.k (.list (.pair (.i .i64) (.pair (.i .i64) (.pair (.i .i64) (.pair (.i .i64) .bo))))))))
def MZ (d:(Int×List Int×Int×List Int)×List (Int×Int×Int×Int×Bool)):Prop:=Q7 d.1.1 d.1.2.1 d.1.2.2.1 d.1.2.2.2=0/\d.1.2.1.length<=110/\d.1.2.2.2.length<=110/\d.2.length=1/\∀ z∈d.2,P3 d.1.2.2.1 d.1.2.2.2 d.1.2.1 z=true
def Kf (d:(Int×List Int×Int×List Int)×List (Int×Int×Int×Int×Bool)):SV:=.lst 0
def Kn (d:(Int×List Int×Int×List Int)×List (Int×Int×Int×Int×Bool)):List OB:=[.lst 9 .st (Wy d.1.2.1 d.1.2.2.1 d.1.2.2.2 d.2) false]
def Zy:CSp:=Y9 KM MZ Kf Kn
def JP (hk:Int) (lw:List Int) (hd:Int) (rows:List Int) (ds:List (Int×Int×Int×Int×Bool)):Prop :=
 (rows≠[]/\rows.length<=110)/\(ds≠[]/\ds.length<=110)/\(ds.length<=1/\(∀ x∈ds,∀ y∈ds,(λ(x1:(Int×Int×Int×Int×Bool)×(Int×Int×Int×Int×Bool))=>True) (x,y)))/\∀ w1:List Value,w1=w1/\∃ (e4:Unit) (d40:(List Int)×(List (Int×Bool))×Int),((True/\True/\True/\True/\True/\(lI ds)=(lI ds)/\(0:Int)=d40.2.2/\True)/\((hk=hk/\lw=lw/\hd=hd/\rows=rows/\(([]:List SV)=[]))/\(rows=d40.1/\false=false)/\(([]:List (Int×Bool))=d40.2.1)/\True/\(ds=ds/\false=false)/\True)) /\
 LoopP (λ(d4:(List Int)×(List (Int×Bool))×Int) (q4:((List Int)×(List (Int×Bool))×Int)->Prop) =>
  ((decide (d4.2.2<(lI ds)))=true ->
   (0<=d4.2.2)/\(d4.2.2<(List.length ds))/\(1<=(gD ds d4.2.2 (0,(0,(0,(0,false))))).1)/\((gD ds d4.2.2 (0,(0,(0,(0,false))))).1<=((5:Nat):Int)) /\
   ((gD ds d4.2.2 (0,(0,(0,(0,false))))).1=(1:Int) ->
    ∀ w5:List Value,(0<=(gD ds d4.2.2 (0,(0,(0,(0,false))))).2.1)/\((gD ds d4.2.2 (0,(0,(0,(0,false))))).2.1<(List.length d4.1))/\(0<=(gD ds d4.2.2 (0,(0,(0,(0,false))))).2.2.1)/\(I64 (Je .i64 (1:Int) (gD ds d4.2.2 (0,(0,(0,(0,false))))).2.2.1))/\(0<=(gD ds d4.2.2 (0,(0,(0,(0,false))))).2.1)/\((gD ds d4.2.2 (0,(0,(0,(0,false))))).2.1<(List.length d4.1))/\w5=w5/\(I64 (d4.2.2+(1:Int)))/\(∃ d6:(List Int)×(List (Int×Bool))×Int,((True/\True/\True/\True/\True/\(lI ds)=(lI ds)/\(d4.2.2+(1:Int))=d6.2.2/\True)/\((hk=hk/\lw=lw/\hd=hd/\rows=rows/\(([]:List SV)=[]))/\((List.set d4.1 (Int.toNat (gD ds d4.2.2 (0,(0,(0,(0,false))))).2.1) (Qa .xor .i64 (List.getD d4.1 (Int.toNat (gD ds d4.2.2 (0,(0,(0,(0,false))))).2.1) 0) (Je .i64 (1:Int) (gD ds d4.2.2 (0,(0,(0,(0,false))))).2.2.1)))=d6.1/\false=false)/\(d4.2.1=d6.2.1)/\True/\(ds=ds/\false=false)/\True))/\q4 d6)) /\
   ((gD ds d4.2.2 (0,(0,(0,(0,false))))).1=(2:Int) ->
    ∀ w7:List Value,∃ (ae:Int×Int×Int×Int×Bool×Int×Int×(List Int)×Int×(List Int)×(List (Int×Bool))×Int×Int×Int×Int×Bool×(List (Int×Int×Int×Int×Bool))×Int×Int×Bool×Int×Int×Int×Int×Bool×Int×Int×(List Int)×Int×(List Int)×Int×Int×Int×Int×Bool×(List Value)) (d100:(List Int)×Int),((True/\True/\(lI d4.1)=(pj4 ae).2.1/\(0:Int)=d100.2/\True)/\((d4.1=d100.1/\false=false)/\((gD ds d4.2.2 (0,(0,(0,(0,false))))).1=ae.1/\(gD ds d4.2.2 (0,(0,(0,(0,false))))).2.1=ae.2.1/\(gD ds d4.2.2 (0,(0,(0,(0,false))))).2.2.1=ae.2.2.1/\(gD ds d4.2.2 (0,(0,(0,(0,false))))).2.2.2.1=ae.2.2.2.1/\(gD ds d4.2.2 (0,(0,(0,(0,false))))).2.2.2.2=(pj4 ae).1/\(([]:List SV)=[]))/\((Q1 (Q1 ae)).2.2.2=w7/\(True/\True/\True/\True/\True/\True/\True/\True/\True/\True/\True/\True/\True/\True/\True/\True/\True/\True/\True/\True/\True/\True/\True/\True/\True/\True/\(lI ds)=(Q1 ae).2.1/\d4.2.2=(Q1 ae).2.2.1/\(decide (d4.2.2<(lI ds)))=(Q1 ae).2.2.2.1/\True/\((gD ds d4.2.2 (0,(0,(0,(0,false))))).1=(pj4 (Q1 ae)).1/\(gD ds d4.2.2 (0,(0,(0,(0,false))))).2.1=(pj4 (Q1 ae)).2.1/\(gD ds d4.2.2 (0,(0,(0,(0,false))))).2.2.1=(pj4 (Q1 ae)).2.2.1/\(gD ds d4.2.2 (0,(0,(0,(0,false))))).2.2.2.1=(pj4 (Q1 ae)).2.2.2.1/\(gD ds d4.2.2 (0,(0,(0,(0,false))))).2.2.2.2=(pj8 (Q1 ae)).1/\(([]:List SV)=[]))/\True/\True/\(2:Int)=(pj8 (Q1 ae)).2.1/\(((([]:List SV)=[]))/\((([]:List SV)=[])))/\(hk=(pj8 (Q1 ae)).2.2.1/\lw=(pj8 (Q1 ae)).2.2.2.1/\hd=(pj4 (pj8 (Q1 ae))).1/\rows=(pj4 (pj8 (Q1 ae))).2.1/\(([]:List SV)=[]))/\((gD ds d4.2.2 (0,(0,(0,(0,false))))).1=(pj4 (pj8 (Q1 ae))).2.2.1/\(gD ds d4.2.2 (0,(0,(0,(0,false))))).2.1=(pj4 (pj8 (Q1 ae))).2.2.2.1/\(gD ds d4.2.2 (0,(0,(0,(0,false))))).2.2.1=(Q1 (Q1 ae)).1/\(gD ds d4.2.2 (0,(0,(0,(0,false))))).2.2.2.1=(Q1 (Q1 ae)).2.1/\(gD ds d4.2.2 (0,(0,(0,(0,false))))).2.2.2.2=(Q1 (Q1 ae)).2.2.1/\(([]:List SV)=[]))/\True/\True/\True/\True/\True/\True/\True/\True/\True/\True/\True/\True/\True/\True/\True/\True/\True/\True/\True/\True/\True/\True/\True/\True/\True/\True/\True/\True/\True/\True/\True/\True/\True/\True/\True/\True/\True/\True/\True/\True/\True/\True/\(([]:List SV)=[])))/\(hk=(pj4 ae).2.2.1/\lw=(pj4 ae).2.2.2.1/\hd=(pj8 ae).1/\rows=(pj8 ae).2.1/\(([]:List SV)=[]))/\(d4.2.1=(pj8 ae).2.2.1)/\True/\((gD ds d4.2.2 (0,(0,(0,(0,false))))).1=(pj8 ae).2.2.2.1/\(gD ds d4.2.2 (0,(0,(0,(0,false))))).2.1=(pj4 (pj8 ae)).1/\(gD ds d4.2.2 (0,(0,(0,(0,false))))).2.2.1=(pj4 (pj8 ae)).2.1/\(gD ds d4.2.2 (0,(0,(0,(0,false))))).2.2.2.1=(pj4 (pj8 ae)).2.2.1/\(gD ds d4.2.2 (0,(0,(0,(0,false))))).2.2.2.2=(pj4 (pj8 ae)).2.2.2.1/\(([]:List SV)=[]))/\(ds=(Q1 ae).1/\false=false)/\True)) /\
    LoopP (λ(d10:(List Int)×Int) (iX:((List Int)×Int)->Prop) =>
     ((decide (d10.2<(pj4 ae).2.1))=true ->
      (0<=d10.2)/\(d10.2<(List.length d10.1))/\(0<=ae.2.2.1)/\(I64 (Je .i64 (1:Int) ae.2.2.1))/\(0<=d10.2)/\(d10.2<(List.length d10.1))/\((!(pj4 ae).1)=true ->
       (0<=d10.2)/\(d10.2<(List.length (sT d10.1 d10.2 (Qa .or .i64 (gD d10.1 d10.2 0) (Je .i64 (1:Int) ae.2.2.1)))))/\(0<=ae.2.2.1)/\(I64 (Je .i64 (1:Int) ae.2.2.1))/\(0<=d10.2)/\(d10.2<(List.length (sT d10.1 d10.2 (Qa .or .i64 (gD d10.1 d10.2 0) (Je .i64 (1:Int) ae.2.2.1)))))/\(I64 (d10.2+(1:Int)))/\(∃ d11:(List Int)×Int,((True/\True/\(pj4 ae).2.1=(pj4 ae).2.1/\(d10.2+(1:Int))=d11.2/\True)/\(((sT (sT d10.1 d10.2 (Qa .or .i64 (gD d10.1 d10.2 0) (Je .i64 (1:Int) ae.2.2.1))) d10.2 (Qa .xor .i64 (gD (sT d10.1 d10.2 (Qa .or .i64 (gD d10.1 d10.2 0) (Je .i64 (1:Int) ae.2.2.1))) d10.2 0) (Je .i64 (1:Int) ae.2.2.1)))=d11.1/\false=false)/\(ae.1=ae.1/\ae.2.1=ae.2.1/\ae.2.2.1=ae.2.2.1/\ae.2.2.2.1=ae.2.2.2.1/\(pj4 ae).1=(pj4 ae).1/\(([]:List SV)=[]))/\((Q1 (Q1 ae)).2.2.2=(Q1 (Q1 ae)).2.2.2/\(True/\True/\True/\True/\True/\True/\True/\True/\True/\True/\True/\True/\True/\True/\True/\True/\True/\True/\True/\True/\True/\True/\True/\True/\True/\True/\(Q1 ae).2.1=(Q1 ae).2.1/\(Q1 ae).2.2.1=(Q1 ae).2.2.1/\(Q1 ae).2.2.2.1=(Q1 ae).2.2.2.1/\True/\((pj4 (Q1 ae)).1=(pj4 (Q1 ae)).1/\(pj4 (Q1 ae)).2.1=(pj4 (Q1 ae)).2.1/\(pj4 (Q1 ae)).2.2.1=(pj4 (Q1 ae)).2.2.1/\(pj4 (Q1 ae)).2.2.2.1=(pj4 (Q1 ae)).2.2.2.1/\(pj8 (Q1 ae)).1=(pj8 (Q1 ae)).1/\(([]:List SV)=[]))/\True/\True/\(pj8 (Q1 ae)).2.1=(pj8 (Q1 ae)).2.1/\(((([]:List SV)=[]))/\((([]:List SV)=[])))/\((pj8 (Q1 ae)).2.2.1=(pj8 (Q1 ae)).2.2.1/\(pj8 (Q1 ae)).2.2.2.1=(pj8 (Q1 ae)).2.2.2.1/\(pj4 (pj8 (Q1 ae))).1=(pj4 (pj8 (Q1 ae))).1/\(pj4 (pj8 (Q1 ae))).2.1=(pj4 (pj8 (Q1 ae))).2.1/\(([]:List SV)=[]))/\((pj4 (pj8 (Q1 ae))).2.2.1=(pj4 (pj8 (Q1 ae))).2.2.1/\(pj4 (pj8 (Q1 ae))).2.2.2.1=(pj4 (pj8 (Q1 ae))).2.2.2.1/\(Q1 (Q1 ae)).1=(Q1 (Q1 ae)).1/\(Q1 (Q1 ae)).2.1=(Q1 (Q1 ae)).2.1/\(Q1 (Q1 ae)).2.2.1=(Q1 (Q1 ae)).2.2.1/\(([]:List SV)=[]))/\True/\True/\True/\True/\True/\True/\True/\True/\True/\True/\True/\True/\True/\True/\True/\True/\True/\True/\True/\True/\True/\True/\True/\True/\True/\True/\True/\True/\True/\True/\True/\True/\True/\True/\True/\True/\True/\True/\True/\True/\True/\True/\(([]:List SV)=[])))/\((pj4 ae).2.2.1=(pj4 ae).2.2.1/\(pj4 ae).2.2.2.1=(pj4 ae).2.2.2.1/\(pj8 ae).1=(pj8 ae).1/\(pj8 ae).2.1=(pj8 ae).2.1/\(([]:List SV)=[]))/\((pj8 ae).2.2.1=(pj8 ae).2.2.1)/\True/\((pj8 ae).2.2.2.1=(pj8 ae).2.2.2.1/\(pj4 (pj8 ae)).1=(pj4 (pj8 ae)).1/\(pj4 (pj8 ae)).2.1=(pj4 (pj8 ae)).2.1/\(pj4 (pj8 ae)).2.2.1=(pj4 (pj8 ae)).2.2.1/\(pj4 (pj8 ae)).2.2.2.1=(pj4 (pj8 ae)).2.2.2.1/\(([]:List SV)=[]))/\((Q1 ae).1=(Q1 ae).1/\false=false)/\True))/\iX d11)) /\
      ((!(pj4 ae).1)=false ->
       (I64 (d10.2+(1:Int)))/\(∃ d12:(List Int)×Int,((True/\True/\(pj4 ae).2.1=(pj4 ae).2.1/\(d10.2+(1:Int))=d12.2/\True)/\(((sT d10.1 d10.2 (Qa .or .i64 (gD d10.1 d10.2 0) (Je .i64 (1:Int) ae.2.2.1)))=d12.1/\false=false)/\(ae.1=ae.1/\ae.2.1=ae.2.1/\ae.2.2.1=ae.2.2.1/\ae.2.2.2.1=ae.2.2.2.1/\(pj4 ae).1=(pj4 ae).1/\(([]:List SV)=[]))/\((Q1 (Q1 ae)).2.2.2=(Q1 (Q1 ae)).2.2.2/\(True/\True/\True/\True/\True/\True/\True/\True/\True/\True/\True/\True/\True/\True/\True/\True/\True/\True/\True/\True/\True/\True/\True/\True/\True/\True/\(Q1 ae).2.1=(Q1 ae).2.1/\(Q1 ae).2.2.1=(Q1 ae).2.2.1/\(Q1 ae).2.2.2.1=(Q1 ae).2.2.2.1/\True/\((pj4 (Q1 ae)).1=(pj4 (Q1 ae)).1/\(pj4 (Q1 ae)).2.1=(pj4 (Q1 ae)).2.1/\(pj4 (Q1 ae)).2.2.1=(pj4 (Q1 ae)).2.2.1/\(pj4 (Q1 ae)).2.2.2.1=(pj4 (Q1 ae)).2.2.2.1/\(pj8 (Q1 ae)).1=(pj8 (Q1 ae)).1/\(([]:List SV)=[]))/\True/\True/\(pj8 (Q1 ae)).2.1=(pj8 (Q1 ae)).2.1/\(((([]:List SV)=[]))/\((([]:List SV)=[])))/\((pj8 (Q1 ae)).2.2.1=(pj8 (Q1 ae)).2.2.1/\(pj8 (Q1 ae)).2.2.2.1=(pj8 (Q1 ae)).2.2.2.1/\(pj4 (pj8 (Q1 ae))).1=(pj4 (pj8 (Q1 ae))).1/\(pj4 (pj8 (Q1 ae))).2.1=(pj4 (pj8 (Q1 ae))).2.1/\(([]:List SV)=[]))/\((pj4 (pj8 (Q1 ae))).2.2.1=(pj4 (pj8 (Q1 ae))).2.2.1/\(pj4 (pj8 (Q1 ae))).2.2.2.1=(pj4 (pj8 (Q1 ae))).2.2.2.1/\(Q1 (Q1 ae)).1=(Q1 (Q1 ae)).1/\(Q1 (Q1 ae)).2.1=(Q1 (Q1 ae)).2.1/\(Q1 (Q1 ae)).2.2.1=(Q1 (Q1 ae)).2.2.1/\(([]:List SV)=[]))/\True/\True/\True/\True/\True/\True/\True/\True/\True/\True/\True/\True/\True/\True/\True/\True/\True/\True/\True/\True/\True/\True/\True/\True/\True/\True/\True/\True/\True/\True/\True/\True/\True/\True/\True/\True/\True/\True/\True/\True/\True/\True/\(([]:List SV)=[])))/\((pj4 ae).2.2.1=(pj4 ae).2.2.1/\(pj4 ae).2.2.2.1=(pj4 ae).2.2.2.1/\(pj8 ae).1=(pj8 ae).1/\(pj8 ae).2.1=(pj8 ae).2.1/\(([]:List SV)=[]))/\((pj8 ae).2.2.1=(pj8 ae).2.2.1)/\True/\((pj8 ae).2.2.2.1=(pj8 ae).2.2.2.1/\(pj4 (pj8 ae)).1=(pj4 (pj8 ae)).1/\(pj4 (pj8 ae)).2.1=(pj4 (pj8 ae)).2.1/\(pj4 (pj8 ae)).2.2.1=(pj4 (pj8 ae)).2.2.1/\(pj4 (pj8 ae)).2.2.2.1=(pj4 (pj8 ae)).2.2.2.1/\(([]:List SV)=[]))/\((Q1 ae).1=(Q1 ae).1/\false=false)/\True))/\iX d12))) /\
     ((decide (d10.2<(pj4 ae).2.1))=false ->
      (Q1 (Q1 ae)).2.2.2=w7/\(I64 ((Q1 ae).2.2.1+(1:Int)))/\(∃ d13:(List Int)×(List (Int×Bool))×Int,((True/\True/\True/\True/\True/\(Q1 ae).2.1=(lI ds)/\((Q1 ae).2.2.1+(1:Int))=d13.2.2/\True)/\(((pj4 ae).2.2.1=hk/\(pj4 ae).2.2.2.1=lw/\(pj8 ae).1=hd/\(pj8 ae).2.1=rows/\(([]:List SV)=[]))/\(d10.1=d13.1/\false=false)/\((pj8 ae).2.2.1=d13.2.1)/\True/\((Q1 ae).1=ds/\false=false)/\True))/\q4 d13))) d100) /\
   ((gD ds d4.2.2 (0,(0,(0,(0,false))))).1=(3:Int) ->
    ∀ lF:List Value,∃ (af:(List Int)×Int×Int×Int×Int×Bool×Int×Int×(List Int)×Int×(List Int)×(List (Int×Bool))×Int×Int×Int×Int×Bool×(List (Int×Int×Int×Int×Bool))×Int×Int×Bool×Int×Int×Int×Int×Bool×Int×Int×(List Int)×Int×(List Int)×Int×Int×Int×Int×Bool×(List Value)) (cj:Int×Int),((True/\True/\(0:Int)=cj.1/\hd=(pj4 af).2.2.1/\(0:Int)=cj.2/\True)/\((d4.1=af.1/\false=false)/\((gD ds d4.2.2 (0,(0,(0,(0,false))))).1=af.2.1/\(gD ds d4.2.2 (0,(0,(0,(0,false))))).2.1=af.2.2.1/\(gD ds d4.2.2 (0,(0,(0,(0,false))))).2.2.1=af.2.2.2.1/\(gD ds d4.2.2 (0,(0,(0,(0,false))))).2.2.2.1=(pj4 af).1/\(gD ds d4.2.2 (0,(0,(0,(0,false))))).2.2.2.2=(pj4 af).2.1/\(([]:List SV)=[]))/\((pj4 (Q1 (Q1 af)))=lF/\(True/\True/\True/\True/\True/\True/\True/\True/\True/\True/\True/\True/\True/\True/\True/\True/\True/\True/\True/\True/\True/\True/\True/\True/\True/\True/\(lI ds)=(Q1 af).2.2.1/\d4.2.2=(Q1 af).2.2.2.1/\(decide (d4.2.2<(lI ds)))=(pj4 (Q1 af)).1/\True/\((gD ds d4.2.2 (0,(0,(0,(0,false))))).1=(pj4 (Q1 af)).2.1/\(gD ds d4.2.2 (0,(0,(0,(0,false))))).2.1=(pj4 (Q1 af)).2.2.1/\(gD ds d4.2.2 (0,(0,(0,(0,false))))).2.2.1=(pj4 (Q1 af)).2.2.2.1/\(gD ds d4.2.2 (0,(0,(0,(0,false))))).2.2.2.1=(pj8 (Q1 af)).1/\(gD ds d4.2.2 (0,(0,(0,(0,false))))).2.2.2.2=(pj8 (Q1 af)).2.1/\(([]:List SV)=[]))/\True/\True/\(3:Int)=(pj8 (Q1 af)).2.2.1/\(((([]:List SV)=[]))/\((([]:List SV)=[])))/\(hk=(pj8 (Q1 af)).2.2.2.1/\lw=(pj4 (pj8 (Q1 af))).1/\hd=(pj4 (pj8 (Q1 af))).2.1/\rows=(pj4 (pj8 (Q1 af))).2.2.1/\(([]:List SV)=[]))/\((gD ds d4.2.2 (0,(0,(0,(0,false))))).1=(pj4 (pj8 (Q1 af))).2.2.2.1/\(gD ds d4.2.2 (0,(0,(0,(0,false))))).2.1=(Q1 (Q1 af)).1/\(gD ds d4.2.2 (0,(0,(0,(0,false))))).2.2.1=(Q1 (Q1 af)).2.1/\(gD ds d4.2.2 (0,(0,(0,(0,false))))).2.2.2.1=(Q1 (Q1 af)).2.2.1/\(gD ds d4.2.2 (0,(0,(0,(0,false))))).2.2.2.2=(Q1 (Q1 af)).2.2.2.1/\(([]:List SV)=[]))/\True/\True/\True/\True/\True/\True/\True/\True/\True/\True/\True/\True/\True/\True/\True/\True/\True/\True/\True/\True/\True/\True/\True/\True/\True/\True/\True/\True/\True/\True/\True/\True/\True/\True/\True/\True/\True/\True/\True/\True/\True/\True/\(([]:List SV)=[])))/\(hk=(pj4 af).2.2.2.1/\lw=(pj8 af).1/\hd=(pj8 af).2.1/\rows=(pj8 af).2.2.1/\(([]:List SV)=[]))/\(d4.2.1=(pj8 af).2.2.2.1)/\True/\((gD ds d4.2.2 (0,(0,(0,(0,false))))).1=(pj4 (pj8 af)).1/\(gD ds d4.2.2 (0,(0,(0,(0,false))))).2.1=(pj4 (pj8 af)).2.1/\(gD ds d4.2.2 (0,(0,(0,(0,false))))).2.2.1=(pj4 (pj8 af)).2.2.1/\(gD ds d4.2.2 (0,(0,(0,(0,false))))).2.2.2.1=(pj4 (pj8 af)).2.2.2.1/\(gD ds d4.2.2 (0,(0,(0,(0,false))))).2.2.2.2=(Q1 af).1/\(([]:List SV)=[]))/\(ds=(Q1 af).2.1/\false=false)/\True)) /\
    LoopP (λ(d17:Int×Int) (lG:(Int×Int)->Prop) =>
     ((decide (d17.2<(pj4 af).2.2.1))=true ->
      (0<=(1:Int))/\(I64 (Je .i64 d17.1 (1:Int)))/\(0<=af.2.2.1)/\(af.2.2.1<(List.length af.1))/\(0<=d17.2)/\(I64 (d17.2+(1:Int)))/\(∃ d18:Int×Int,((True/\True/\(Qa .or .i64 (Je .i64 d17.1 (1:Int)) (Qa .and .i64 (Jj .i64 (gD af.1 af.2.2.1 0) d17.2) (1:Int)))=d18.1/\(pj4 af).2.2.1=(pj4 af).2.2.1/\(d17.2+(1:Int))=d18.2/\True)/\((af.1=af.1/\false=false)/\(af.2.1=af.2.1/\af.2.2.1=af.2.2.1/\af.2.2.2.1=af.2.2.2.1/\(pj4 af).1=(pj4 af).1/\(pj4 af).2.1=(pj4 af).2.1/\(([]:List SV)=[]))/\((pj4 (Q1 (Q1 af)))=(pj4 (Q1 (Q1 af)))/\(True/\True/\True/\True/\True/\True/\True/\True/\True/\True/\True/\True/\True/\True/\True/\True/\True/\True/\True/\True/\True/\True/\True/\True/\True/\True/\(Q1 af).2.2.1=(Q1 af).2.2.1/\(Q1 af).2.2.2.1=(Q1 af).2.2.2.1/\(pj4 (Q1 af)).1=(pj4 (Q1 af)).1/\True/\((pj4 (Q1 af)).2.1=(pj4 (Q1 af)).2.1/\(pj4 (Q1 af)).2.2.1=(pj4 (Q1 af)).2.2.1/\(pj4 (Q1 af)).2.2.2.1=(pj4 (Q1 af)).2.2.2.1/\(pj8 (Q1 af)).1=(pj8 (Q1 af)).1/\(pj8 (Q1 af)).2.1=(pj8 (Q1 af)).2.1/\(([]:List SV)=[]))/\True/\True/\(pj8 (Q1 af)).2.2.1=(pj8 (Q1 af)).2.2.1/\(((([]:List SV)=[]))/\((([]:List SV)=[])))/\((pj8 (Q1 af)).2.2.2.1=(pj8 (Q1 af)).2.2.2.1/\(pj4 (pj8 (Q1 af))).1=(pj4 (pj8 (Q1 af))).1/\(pj4 (pj8 (Q1 af))).2.1=(pj4 (pj8 (Q1 af))).2.1/\(pj4 (pj8 (Q1 af))).2.2.1=(pj4 (pj8 (Q1 af))).2.2.1/\(([]:List SV)=[]))/\((pj4 (pj8 (Q1 af))).2.2.2.1=(pj4 (pj8 (Q1 af))).2.2.2.1/\(Q1 (Q1 af)).1=(Q1 (Q1 af)).1/\(Q1 (Q1 af)).2.1=(Q1 (Q1 af)).2.1/\(Q1 (Q1 af)).2.2.1=(Q1 (Q1 af)).2.2.1/\(Q1 (Q1 af)).2.2.2.1=(Q1 (Q1 af)).2.2.2.1/\(([]:List SV)=[]))/\True/\True/\True/\True/\True/\True/\True/\True/\True/\True/\True/\True/\True/\True/\True/\True/\True/\True/\True/\True/\True/\True/\True/\True/\True/\True/\True/\True/\True/\True/\True/\True/\True/\True/\True/\True/\True/\True/\True/\True/\True/\True/\(([]:List SV)=[])))/\((pj4 af).2.2.2.1=(pj4 af).2.2.2.1/\(pj8 af).1=(pj8 af).1/\(pj8 af).2.1=(pj8 af).2.1/\(pj8 af).2.2.1=(pj8 af).2.2.1/\(([]:List SV)=[]))/\((pj8 af).2.2.2.1=(pj8 af).2.2.2.1)/\True/\((pj4 (pj8 af)).1=(pj4 (pj8 af)).1/\(pj4 (pj8 af)).2.1=(pj4 (pj8 af)).2.1/\(pj4 (pj8 af)).2.2.1=(pj4 (pj8 af)).2.2.1/\(pj4 (pj8 af)).2.2.2.1=(pj4 (pj8 af)).2.2.2.1/\(Q1 af).1=(Q1 af).1/\(([]:List SV)=[]))/\((Q1 af).2.1=(Q1 af).2.1/\false=false)/\True))/\lG d18)) /\
     ((decide (d17.2<(pj4 af).2.2.1))=false ->
      (0<=af.2.2.1)/\(af.2.2.1<(List.length af.1))/\(pj4 (Q1 (Q1 af)))=lF/\(I64 ((Q1 af).2.2.2.1+(1:Int)))/\(∃ d19:(List Int)×(List (Int×Bool))×Int,((True/\True/\True/\True/\True/\(Q1 af).2.2.1=(lI ds)/\((Q1 af).2.2.2.1+(1:Int))=d19.2.2/\True)/\(((pj4 af).2.2.2.1=hk/\(pj8 af).1=lw/\(pj8 af).2.1=hd/\(pj8 af).2.2.1=rows/\(([]:List SV)=[]))/\((sT af.1 af.2.2.1 d17.1)=d19.1/\false=false)/\((pj8 af).2.2.2.1=d19.2.1)/\True/\((Q1 af).2.1=ds/\false=false)/\True))/\q4 d19))) cj) /\
   ((gD ds d4.2.2 (0,(0,(0,(0,false))))).1=(4:Int) ->
    ∀ mz:List Value,(I64 ((gD ds d4.2.2 (0,(0,(0,(0,false))))).2.1+(1:Int)))/\((lI d4.1)≠0)/\(0<=(gD ds d4.2.2 (0,(0,(0,(0,false))))).2.1)/\((gD ds d4.2.2 (0,(0,(0,(0,false))))).2.1<(List.length d4.1))/\(0<=(Int.tmod ((gD ds d4.2.2 (0,(0,(0,(0,false))))).2.1+(1:Int)) (lI d4.1)))/\((Int.tmod ((gD ds d4.2.2 (0,(0,(0,(0,false))))).2.1+(1:Int)) (lI d4.1))<(List.length d4.1))/\(0<=(gD ds d4.2.2 (0,(0,(0,(0,false))))).2.1)/\((gD ds d4.2.2 (0,(0,(0,(0,false))))).2.1<(List.length d4.1))/\(0<=(Int.tmod ((gD ds d4.2.2 (0,(0,(0,(0,false))))).2.1+(1:Int)) (lI d4.1)))/\((Int.tmod ((gD ds d4.2.2 (0,(0,(0,(0,false))))).2.1+(1:Int)) (lI d4.1))<(List.length (List.set d4.1 (Int.toNat (gD ds d4.2.2 (0,(0,(0,(0,false))))).2.1) (gD d4.1 (Int.tmod ((gD ds d4.2.2 (0,(0,(0,(0,false))))).2.1+(1:Int)) (lI d4.1)) 0))))/\mz=mz/\(I64 (d4.2.2+(1:Int)))/\(∃ d21:(List Int)×(List (Int×Bool))×Int,((True/\True/\True/\True/\True/\(lI ds)=(lI ds)/\(d4.2.2+(1:Int))=d21.2.2/\True)/\((hk=hk/\lw=lw/\hd=hd/\rows=rows/\(([]:List SV)=[]))/\((sT (List.set d4.1 (Int.toNat (gD ds d4.2.2 (0,(0,(0,(0,false))))).2.1) (gD d4.1 (Int.tmod ((gD ds d4.2.2 (0,(0,(0,(0,false))))).2.1+(1:Int)) (lI d4.1)) 0)) (Int.tmod ((gD ds d4.2.2 (0,(0,(0,(0,false))))).2.1+(1:Int)) (lI d4.1)) (List.getD d4.1 (Int.toNat (gD ds d4.2.2 (0,(0,(0,(0,false))))).2.1) 0))=d21.1/\false=false)/\(d4.2.1=d21.2.1)/\True/\(ds=ds/\false=false)/\True))/\q4 d21)) /\
   ((gD ds d4.2.2 (0,(0,(0,(0,false))))).1=(5:Int) ->
    ∀ mA:List Value,mA=mA/\(I64 (d4.2.2+(1:Int)))/\(∃ d23:(List Int)×(List (Int×Bool))×Int,((True/\True/\True/\True/\True/\(lI ds)=(lI ds)/\(d4.2.2+(1:Int))=d23.2.2/\True)/\((hk=hk/\lw=lw/\hd=hd/\rows=rows/\(([]:List SV)=[]))/\(d4.1=d23.1/\false=false)/\((Q0w (.i .i64) d4.2.1 (gD ds d4.2.2 (0,(0,(0,(0,false))))).2.2.2.1 true)=d23.2.1)/\True/\(ds=ds/\false=false)/\True))/\q4 d23)) /\
   True) /\
  ((decide (d4.2.2<(lI ds)))=false ->
   (lw.length<=110/\d4.1.length<=110)/\∃ (eS:(List (Int×Bool))×Int) (eT:(List (List UInt8))×Int),((True/\True/\True/\(lI (ZV hk lw hd d4.1))=eS.2/\(0:Int)=eT.2/\True)/\(((ZV hk lw hd d4.1)=eT.1/\(ZV hk lw hd d4.1).isEmpty=(List.isEmpty eT.1))/\(d4.2.1=eS.1)/\True)) /\
   LoopP (λ(d26:(List (List UInt8))×Int) (rv:((List (List UInt8))×Int)->Prop) =>
    ((decide (d26.2<eS.2))=true ->
     (0<=d26.2)/\(d26.2<(List.length d26.1))/\((List.length (gD d26.1 d26.2 []))<=4611686018427387904)/\∃ (aS:(List (List UInt8))×(List (Int×Bool))×Int×Int×Int×(List (Int×Bool))) (fX:(List Int)×(List Nat)),((True/\True/\d26.2=aS.2.2.1/\True/\True/\eS.2=aS.2.2.2.1/\d26.2=(pj4 aS).1/\True/\True)/\((d26.1=aS.1/\(List.isEmpty d26.1)=(List.isEmpty aS.1))/\(eS.1=aS.2.1)/\((List.map (λ(b:UInt8)=>(UInt8.toNat b:Int)) (gD d26.1 d26.2 []))=fX.1/\false=false)/\(eS.1=(pj4 aS).2/\([]:List Nat)=fX.2)/\True)) /\
     LoopP (λ(d29:(List Int)×(List Nat)) (ry:((List Int)×(List Nat))->Prop) =>
      ((∀ r:Nat,r<(List.length (pj4 aS).2)->r∈d29.2) ->
       (0<=aS.2.2.1)/\(aS.2.2.1<(List.length aS.1))/\(I64 ((pj4 aS).1+(1:Int)))/\(∃ d31:(List (List UInt8))×Int,((True/\True/\True/\aS.2.2.2.1=eS.2/\((pj4 aS).1+(1:Int))=d31.2/\True)/\(((sT aS.1 aS.2.2.1 (M4 d29.1))=d31.1/\(List.isEmpty aS.1)=(List.isEmpty d31.1))/\(aS.2.1=eS.1)/\True))/\rv d31)) /\
      (∀ fY:Nat,fY<(List.length (pj4 aS).2)->fY∉d29.2 ->
       ((d29.2++[fY])≠[])/\(0<=(List.getD (pj4 aS).2 (List.getLastD (d29.2++[fY]) 0) (0,false)).1)/\((List.getD (pj4 aS).2 (List.getLastD (d29.2++[fY]) 0) (0,false)).1<(List.length d29.1))/\(∃ d32:(List Int)×(List Nat),((True/\True/\aS.2.2.1=aS.2.2.1/\True/\True/\aS.2.2.2.1=aS.2.2.2.1/\(pj4 aS).1=(pj4 aS).1/\True/\True)/\((aS.1=aS.1/\(List.isEmpty aS.1)=(List.isEmpty aS.1))/\(aS.2.1=aS.2.1)/\((List.set d29.1 (Int.toNat (List.getD (pj4 aS).2 (List.getLastD (d29.2++[fY]) 0) (0,false)).1) (46:Int))=d32.1/\false=false)/\((pj4 aS).2=(pj4 aS).2/\(d29.2++[fY])=d32.2)/\True))/\ry d32))) fX) /\
    ((decide (d26.2<eS.2))=false ->
     (True/\((d26.1=(Wy lw hd rows ds)/\(List.isEmpty d26.1)=false)/\True)))) eT)) d40
def JO:Cx:=⟨[(1000001,(.i .i64))],[],3,[],0,[],[],[],[],false,[],[],[],[]⟩
def JK:List (Nat×LoopAnn):=[]
def Jq:Cx:=⟨[],[],18,[],0,[],[],[],[],false,[],[],[],[]⟩
def Jw:List (Nat×LoopAnn):=[]
def Jt:Cx:=⟨[],[],36,[],0,[],[],[],[],false,[],[],[],[]⟩
def Jp:List (Nat×LoopAnn):=[(0,⟨Int×Int×Int×Int×Bool×Int×Int×(List Int)×Int×(List Int)×(List (Int×Bool))×Int×Int×Int×Int×Bool×(List (Int×Int×Int×Int×Bool))×Int×Int×Bool×Int×Int×Int×Int×Bool×Int×Int×(List Int)×Int×(List Int)×Int×Int×Int×Int×Bool×(List Value),(List Int)×Int,[2,5,10,11],λe x=>[.lst 18,.box 4000005 0,.val (.i .i64) e.2.2.2.2.2.1,.val (.i .i64) x.2],λe x=>[(18,.slot 2,.lst 3 (.i .i64) x.1 false),(4000005,.slot 5,.cells [.val (.i .i64) e.1,.val (.i .i64) e.2.1,.val (.i .i64) e.2.2.1,.val (.i .i64) e.2.2.2.1,.val .bo e.2.2.2.2.1] (some 43)),(3999999,.key 3999999,.stk [.any,.any,.box 2 0,.any,.any,.lst 18,.map 19,.map 2500001,.any,.box 9 0,.any,.any,.any,.any,.any,.any,.any,.any,.any,.any,.any,.any,.any,.any,.any,.lst 21,.val (.i .i64) e.2.2.2.2.2.2.2.2.2.2.2.2.2.2.2.2.2.1,.val (.i .i64) e.2.2.2.2.2.2.2.2.2.2.2.2.2.2.2.2.2.2.1,.val .bo e.2.2.2.2.2.2.2.2.2.2.2.2.2.2.2.2.2.2.2.1,.any,.agg [.val (.i .i64) e.2.2.2.2.2.2.2.2.2.2.2.2.2.2.2.2.2.2.2.2.1,.val (.i .i64) e.2.2.2.2.2.2.2.2.2.2.2.2.2.2.2.2.2.2.2.2.2.1,.val (.i .i64) e.2.2.2.2.2.2.2.2.2.2.2.2.2.2.2.2.2.2.2.2.2.2.1,.val (.i .i64) e.2.2.2.2.2.2.2.2.2.2.2.2.2.2.2.2.2.2.2.2.2.2.2.1,.val .bo e.2.2.2.2.2.2.2.2.2.2.2.2.2.2.2.2.2.2.2.2.2.2.2.2.1],.map 2500001,.box 9 0,.val (.i .i64) e.2.2.2.2.2.2.2.2.2.2.2.2.2.2.2.2.2.2.2.2.2.2.2.2.2.1,.fn 82 [] [],.agg [.val (.i .i64) e.2.2.2.2.2.2.2.2.2.2.2.2.2.2.2.2.2.2.2.2.2.2.2.2.2.2.1,.val (.list (.i .i64)) e.2.2.2.2.2.2.2.2.2.2.2.2.2.2.2.2.2.2.2.2.2.2.2.2.2.2.2.1,.val (.i .i64) e.2.2.2.2.2.2.2.2.2.2.2.2.2.2.2.2.2.2.2.2.2.2.2.2.2.2.2.2.1,.val (.list (.i .i64)) e.2.2.2.2.2.2.2.2.2.2.2.2.2.2.2.2.2.2.2.2.2.2.2.2.2.2.2.2.2.1],.agg [.val (.i .i64) e.2.2.2.2.2.2.2.2.2.2.2.2.2.2.2.2.2.2.2.2.2.2.2.2.2.2.2.2.2.2.1,.val (.i .i64) e.2.2.2.2.2.2.2.2.2.2.2.2.2.2.2.2.2.2.2.2.2.2.2.2.2.2.2.2.2.2.2.1,.val (.i .i64) e.2.2.2.2.2.2.2.2.2.2.2.2.2.2.2.2.2.2.2.2.2.2.2.2.2.2.2.2.2.2.2.2.1,.val (.i .i64) e.2.2.2.2.2.2.2.2.2.2.2.2.2.2.2.2.2.2.2.2.2.2.2.2.2.2.2.2.2.2.2.2.2.1,.val .bo e.2.2.2.2.2.2.2.2.2.2.2.2.2.2.2.2.2.2.2.2.2.2.2.2.2.2.2.2.2.2.2.2.2.2.1],.lst 18,.map 19,.any,.any,.any,.any,.any,.any,.any,.any,.any,.any,.any,.any,.any,.any,.any,.any,.any,.any,.any,.any,.any,.any,.any,.any,.any,.any,.any,.any,.any,.any,.any,.any,.any,.any,.any,.any,.any,.any,.any,.any] e.2.2.2.2.2.2.2.2.2.2.2.2.2.2.2.2.2.2.2.2.2.2.2.2.2.2.2.2.2.2.2.2.2.2.2),(2,.key 2,.cells [.val (.i .i64) e.2.2.2.2.2.2.1,.val (.list (.i .i64)) e.2.2.2.2.2.2.2.1,.val (.i .i64) e.2.2.2.2.2.2.2.2.1,.val (.list (.i .i64)) e.2.2.2.2.2.2.2.2.2.1] (some 76)),(19,.key 19,.map (.i .i64) .bo e.2.2.2.2.2.2.2.2.2.2.1),(2500001,.key 2500001,.fm .i64 [(1,81),(2,82),(3,83),(4,84),(5,85)]),(9,.key 9,.cells [.val (.i .i64) e.2.2.2.2.2.2.2.2.2.2.2.1,.val (.i .i64) e.2.2.2.2.2.2.2.2.2.2.2.2.1,.val (.i .i64) e.2.2.2.2.2.2.2.2.2.2.2.2.2.1,.val (.i .i64) e.2.2.2.2.2.2.2.2.2.2.2.2.2.2.1,.val .bo e.2.2.2.2.2.2.2.2.2.2.2.2.2.2.2.1] (some 43)),(21,.key 21,.lst 43 (.pair (.i .i64) (.pair (.i .i64) (.pair (.i .i64) (.pair (.i .i64) .bo)))) e.2.2.2.2.2.2.2.2.2.2.2.2.2.2.2.2.1 false)]⟩)]
def Jl:Cx:=⟨[],[],34,[],0,[],[],[],[],false,[],[],[],[]⟩
def Jn:List (Nat×LoopAnn):=[(0,⟨(List Int)×Int×Int×Int×Int×Bool×Int×Int×(List Int)×Int×(List Int)×(List (Int×Bool))×Int×Int×Int×Int×Bool×(List (Int×Int×Int×Int×Bool))×Int×Int×Bool×Int×Int×Int×Int×Bool×Int×Int×(List Int)×Int×(List Int)×Int×Int×Int×Int×Bool×(List Value),Int×Int,[2,5,8,13,14],λe x=>[.lst 18,.box 4000005 0,.val (.i .i64) x.1,.val (.i .i64) e.2.2.2.2.2.2.1,.val (.i .i64) x.2],λe x=>[(18,.slot 2,.lst 3 (.i .i64) e.1 false),(4000005,.slot 5,.cells [.val (.i .i64) e.2.1,.val (.i .i64) e.2.2.1,.val (.i .i64) e.2.2.2.1,.val (.i .i64) e.2.2.2.2.1,.val .bo e.2.2.2.2.2.1] (some 43)),(3999999,.key 3999999,.stk [.any,.any,.box 2 0,.any,.any,.lst 18,.map 19,.map 2500001,.any,.box 9 0,.any,.any,.any,.any,.any,.any,.any,.any,.any,.any,.any,.any,.any,.any,.any,.lst 21,.val (.i .i64) e.2.2.2.2.2.2.2.2.2.2.2.2.2.2.2.2.2.2.1,.val (.i .i64) e.2.2.2.2.2.2.2.2.2.2.2.2.2.2.2.2.2.2.2.1,.val .bo e.2.2.2.2.2.2.2.2.2.2.2.2.2.2.2.2.2.2.2.2.1,.any,.agg [.val (.i .i64) e.2.2.2.2.2.2.2.2.2.2.2.2.2.2.2.2.2.2.2.2.2.1,.val (.i .i64) e.2.2.2.2.2.2.2.2.2.2.2.2.2.2.2.2.2.2.2.2.2.2.1,.val (.i .i64) e.2.2.2.2.2.2.2.2.2.2.2.2.2.2.2.2.2.2.2.2.2.2.2.1,.val (.i .i64) e.2.2.2.2.2.2.2.2.2.2.2.2.2.2.2.2.2.2.2.2.2.2.2.2.1,.val .bo e.2.2.2.2.2.2.2.2.2.2.2.2.2.2.2.2.2.2.2.2.2.2.2.2.2.1],.map 2500001,.box 9 0,.val (.i .i64) e.2.2.2.2.2.2.2.2.2.2.2.2.2.2.2.2.2.2.2.2.2.2.2.2.2.2.1,.fn 83 [] [],.agg [.val (.i .i64) e.2.2.2.2.2.2.2.2.2.2.2.2.2.2.2.2.2.2.2.2.2.2.2.2.2.2.2.1,.val (.list (.i .i64)) e.2.2.2.2.2.2.2.2.2.2.2.2.2.2.2.2.2.2.2.2.2.2.2.2.2.2.2.2.1,.val (.i .i64) e.2.2.2.2.2.2.2.2.2.2.2.2.2.2.2.2.2.2.2.2.2.2.2.2.2.2.2.2.2.1,.val (.list (.i .i64)) e.2.2.2.2.2.2.2.2.2.2.2.2.2.2.2.2.2.2.2.2.2.2.2.2.2.2.2.2.2.2.1],.agg [.val (.i .i64) e.2.2.2.2.2.2.2.2.2.2.2.2.2.2.2.2.2.2.2.2.2.2.2.2.2.2.2.2.2.2.2.1,.val (.i .i64) e.2.2.2.2.2.2.2.2.2.2.2.2.2.2.2.2.2.2.2.2.2.2.2.2.2.2.2.2.2.2.2.2.1,.val (.i .i64) e.2.2.2.2.2.2.2.2.2.2.2.2.2.2.2.2.2.2.2.2.2.2.2.2.2.2.2.2.2.2.2.2.2.1,.val (.i .i64) e.2.2.2.2.2.2.2.2.2.2.2.2.2.2.2.2.2.2.2.2.2.2.2.2.2.2.2.2.2.2.2.2.2.2.1,.val .bo e.2.2.2.2.2.2.2.2.2.2.2.2.2.2.2.2.2.2.2.2.2.2.2.2.2.2.2.2.2.2.2.2.2.2.2.1],.lst 18,.map 19,.any,.any,.any,.any,.any,.any,.any,.any,.any,.any,.any,.any,.any,.any,.any,.any,.any,.any,.any,.any,.any,.any,.any,.any,.any,.any,.any,.any,.any,.any,.any,.any,.any,.any,.any,.any,.any,.any,.any,.any] e.2.2.2.2.2.2.2.2.2.2.2.2.2.2.2.2.2.2.2.2.2.2.2.2.2.2.2.2.2.2.2.2.2.2.2.2),(2,.key 2,.cells [.val (.i .i64) e.2.2.2.2.2.2.2.1,.val (.list (.i .i64)) e.2.2.2.2.2.2.2.2.1,.val (.i .i64) e.2.2.2.2.2.2.2.2.2.1,.val (.list (.i .i64)) e.2.2.2.2.2.2.2.2.2.2.1] (some 76)),(19,.key 19,.map (.i .i64) .bo e.2.2.2.2.2.2.2.2.2.2.2.1),(2500001,.key 2500001,.fm .i64 [(1,81),(2,82),(3,83),(4,84),(5,85)]),(9,.key 9,.cells [.val (.i .i64) e.2.2.2.2.2.2.2.2.2.2.2.2.1,.val (.i .i64) e.2.2.2.2.2.2.2.2.2.2.2.2.2.1,.val (.i .i64) e.2.2.2.2.2.2.2.2.2.2.2.2.2.2.1,.val (.i .i64) e.2.2.2.2.2.2.2.2.2.2.2.2.2.2.2.1,.val .bo e.2.2.2.2.2.2.2.2.2.2.2.2.2.2.2.2.1] (some 43)),(21,.key 21,.lst 43 (.pair (.i .i64) (.pair (.i .i64) (.pair (.i .i64) (.pair (.i .i64) .bo)))) e.2.2.2.2.2.2.2.2.2.2.2.2.2.2.2.2.2.1 false)]⟩)]
def Jv:Cx:=⟨[],[],35,[],0,[],[],[],[],false,[],[],[],[]⟩
def Jm:List (Nat×LoopAnn):=[]
def Ju:Cx:=⟨[],[],11,[],0,[],[],[],[],false,[],[],[],[]⟩
def Js:List (Nat×LoopAnn):=[]
def KH:Cx:=⟨[(1000019,(.pair (.i .i64) .bo))],[(50,XF),(51,CSp.or Qx Ql),(53,X0),(24,NS)],79,[4002117,4054019,3000066],0,[(52,Qe),(55,EW JO (λ_=>JK) c55 [.tmp 0] 3),(81,EW Jq (λ_=>Jw) c81 [] 18),(82,EW Jt (λ_=>Jp) c82 [] 36),(83,EW Jl (λ_=>Jn) c83 [] 34),(84,EW Jv (λ_=>Jm) c84 [] 35),(85,EW Ju (λ_=>Js) c85 [] 11)],[],[],[],false,[],[],[33,54,66],[]⟩
def Gg (hk:Int) (lw:List Int) (hd:Int) (rows:List Int) (ds:List (Int×Int×Int×Int×Bool)):List (Nat×LoopAnn):=[(0,⟨Unit,(List Int)×(List (Int×Bool))×Int,[2,5,6,7,25,26,27],λe x=>[.box 2 0,.lst 18,.map 19,.map 2500001,.lst 21,.val (.i .i64) (((List.length ds):Nat):Int),.val (.i .i64) x.2.2],λe x=>[(2,.slot 2,.cells [.val (.i .i64) hk,.val (.list (.i .i64)) lw,.val (.i .i64) hd,.val (.list (.i .i64)) rows] (some 76)),(18,.slot 5,.lst 3 (.i .i64) x.1 false),(19,.slot 6,.map (.i .i64) .bo x.2.1),(2500001,.slot 7,.fm .i64 [(1,81),(2,82),(3,83),(4,84),(5,85)]),(21,.slot 25,.lst 43 (.pair (.i .i64) (.pair (.i .i64) (.pair (.i .i64) (.pair (.i .i64) .bo)))) ds false)]⟩),
 (2,⟨(List (Int×Bool))×Int,(List (List UInt8))×Int,[4,6,54,55,56],λe x=>[.lst 51,.map 19,.lst 51,.val (.i .i64) e.2,.val (.i .i64) x.2],λe x=>[(51,.slot 4,.lst 9 .st x.1 (List.isEmpty x.1)),(19,.slot 6,.rmap (.i .i64) .bo e.1)]⟩),
 (4,⟨(List (List UInt8))×(List (Int×Bool))×Int×Int×Int×(List (Int×Bool)),(List Int)×(List Nat),[4,6,10,12,54,55,56,64],λe x=>[.lst 51,.map 19,.val (.i .i64) e.2.2.1,.lst 62,.lst 51,.val (.i .i64) e.2.2.2.1,.val (.i .i64) e.2.2.2.2.1,.box 64 0],λe x=>[(51,.slot 4,.lst 9 .st e.1 (List.isEmpty e.1)),(19,.slot 6,.rmap (.i .i64) .bo e.2.1),(62,.slot 12,.lst 5 (.i .u8) x.1 false),(64,.slot 64,.iter (.i .i64) .bo e.2.2.2.2.2 x.2)]⟩)]
theorem Gc (d:(Int×List Int×Int×List Int)×List (Int×Int×Int×Int×Bool)):gwp (KH) (Gg d.1.1 d.1.2.1 d.1.2.2.1 d.1.2.2.2 d.2) c27 0 (Yh [.tmp 4] (Kf d) (Kn d)) (Qo 79 (AL.can KM d))=JP d.1.1 d.1.2.1 d.1.2.2.1 d.1.2.2.2 d.2:=by kernel_rfl
abbrev GI:Prop:=OkC Tryz.prog 27 Zy
theorem G6 (h:∀ (hk:Int) (lw:List Int) (hd:Int) (rows:List Int) (ds:List (Int×Int×Int×Int×Bool)),(Q7 hk lw hd rows=0/\lw.length<=110/\rows.length<=110/\ds.length=1/\∀ z∈ds,P3 hd rows lw z=true)->JP hk lw hd rows ds):OkC Tryz.prog 27 Zy :=
 Qu Z5c mixed (C:=KH) (V:=λ(d:(Int×List Int×Int×List Int)×List (Int×Int×Int×Int×Bool))=>JP d.1.1 d.1.2.1 d.1.2.2.1 d.1.2.2.2 d.2) ⟨(.cons Vj (.cons (OkC.or ZM Zi) (.cons YQ (.cons Hm .nil)))),(XsOk.cons QV (XsOk.cons (Wc Z5r mixed (C:=JO) ⟨.nil,XsOk.nil,ItsOk.nil,YlOk.nil,IysOk.nil,XfOk.nil⟩ (λ_=>JK)) (XsOk.cons (Wc Z5g mixed (C:=Jq) ⟨.nil,XsOk.nil,ItsOk.nil,YlOk.nil,IysOk.nil,XfOk.nil⟩ (λ_=>Jw)) (XsOk.cons (Wc Z59 mixed (C:=Jt) ⟨.nil,XsOk.nil,ItsOk.nil,YlOk.nil,IysOk.nil,XfOk.nil⟩ (λ_=>Jp)) (XsOk.cons (Wc Z51 mixed (C:=Jl) ⟨.nil,XsOk.nil,ItsOk.nil,YlOk.nil,IysOk.nil,XfOk.nil⟩ (λ_=>Jn)) (XsOk.cons (Wc Z4x mixed (C:=Jv) ⟨.nil,XsOk.nil,ItsOk.nil,YlOk.nil,IysOk.nil,XfOk.nil⟩ (λ_=>Jm)) (XsOk.cons (Wc Z55 mixed (C:=Ju) ⟨.nil,XsOk.nil,ItsOk.nil,YlOk.nil,IysOk.nil,XfOk.nil⟩ (λ_=>Js)) XsOk.nil))))))),ItsOk.nil,YlOk.nil,IysOk.nil,XfOk.nil⟩ (Gc) λd hp=>h d.1.1 d.1.2.1 d.1.2.2.1 d.1.2.2.2 d.2 hp
theorem Y5:Tc:=TO λhk lw hd rows h=>by
 obtain⟨hw,dM,bG⟩:=h;obtain⟨f0,f1,f2,f3,f4,f5,f6⟩:=U8 hw;have lH:∀ k:Nat,k<=110->InK .i64 ((k:Int)+1):=λk _=>by rw[Qm];omega
 unfold Y3;(try delta lI gD sT I64 Q1 pj8 pj4);refine⟨⟨by rintro rfl;simp at f4,by omega⟩,trivial,⟨by simp,λ_ _ _ _=>trivial⟩,λw1=>⟨rfl,(),(rows,[],0),(by and_intros<;>first|rfl|trivial|simp),?_⟩⟩;refine⟨λs=>s=(rows,[],0),λ_=>0,rfl,?_⟩;rintro _ rfl;refine⟨λc=>by simp at c,λ_=>⟨⟨dM,bG⟩,?_⟩⟩;dsimp only;have ew:ZV hk lw hd rows=rows.map (Gp lw):=by unfold ZV;rw[z2 hw]
 have er:Wy lw hd rows []=(ZV hk lw hd rows).map id:=by rw[ew,List.map_id];rfl
 rw[er];have rz:(ZV hk lw hd rows).length=rows.length:=by rw[ew,xB]
 have rA:∀ s∈ZV hk lw hd rows,s.length=lw.length:=λs hs=>by rw[ew] at hs;obtain⟨r,_,rfl⟩:=zC.1 hs;simp[Gp]
 clear er ew;generalize ZV hk lw hd rows=W at *
 refine⟨([],(W.length:Int)),(W,0),(by and_intros<;>first|rfl|trivial|simp),?_⟩;dsimp only;refine LoopP.count2 W.length (λk x=>x=SY id W k) (Ac _ _).symm (λk x hk hx q hq=>?_);subst hx;dsimp only;have fK:=TK id W k;refine⟨λc=>?_,λc=>?_⟩
 .have c:k<W.length:=by simpa using c
  have fy:(W.getD k []).length=lw.length:=by rw[Qf c];exact rA _ (zd c)
  have a7:=Q0l id W k [] c;have hq:=hq _ c rfl;rw[<-a7] at hq;simp only[z7,En _ _ _ _ c];generalize W.getD k []=S at *
  refine⟨by omega,by omega,by omega,(SY id W k,[],(k:Int),(W.length:Int),(k:Int),[]),(S.map (λ(b:UInt8)=>((b.toNat:Nat):Int)),[]),(by and_intros<;>first|rfl|trivial|simp),?_⟩;dsimp only;refine⟨λs=>s=(S.map (λ(b:UInt8)=>((b.toNat:Nat):Int)),[]),λs=>0,rfl,?_⟩;have he:(SY id W k).isEmpty=((SY id W k).set k (id S)).isEmpty:=by
   generalize SY id W k=M;cases M with
   |nil=>rfl
   |cons a l=>cases k<;>rfl
  rintro _ rfl;dsimp only;refine⟨λha=>?_,λr hr hn=>by (simp at hr)⟩;have hx:M4 (S.map λ(b:UInt8)=>((b.toNat:Nat):Int))=id S:=by rw[Ee];rfl
  refine⟨by omega,by omega,lH k (by omega),((SY id W k).set k (id S),(k:Int)+1),?_,hq⟩;rw[hx,he];exact(by and_intros<;>first|rfl|trivial|simp)
 .have c:k=W.length:=by
   have:¬ k<W.length:=by simpa using c
   omega
  rw[c,O0];cases W with
  |nil=>simp at rz;omega
  |cons a l=>exact(by and_intros<;>first|rfl|trivial|simp)
theorem JQ:GI:=G6 λhk lw hd rows ds h=>by
 obtain⟨hw,dM,bG,eC,pI⟩:=h;obtain⟨d,rfl⟩:∃ d,ds=[d]:=zI.1 eC;have pI:=pI d (by simp);obtain⟨f0,f1,f2,f3,f4,f5,f6⟩:=U8 hw;obtain⟨g1,g2,g3,g4,g5,g6,g7,g8⟩:=Is pI;obtain⟨k1,k2⟩:=Q4k hw pI;have vl:(2:Int) ^ hd.toNat<=2 ^ 24:=by have:=Z8f (h:=hd.toNat) (by omega);have:=Sa hd.toNat;omega
 have cW:∀ k:Nat,k<rows.length->0<=rows.getD k 0/\rows.getD k 0<2 ^ 24:=λk hk=>by rw[Qf hk];have:=f6 _ (zd hk);omega
 have gi:InK .i64 (0+1):=by rw[Qm];omega
 have lH:∀ k:Nat,k<=110->InK .i64 ((k:Int)+1):=λk _=>by rw[Qm];omega
 have dj:=Z4e g5 (by omega);unfold JP;(try delta lI gD sT I64 Q1 pj8 pj4);refine⟨⟨by rintro rfl;simp at f4,by omega⟩,⟨by simp,by simp⟩,⟨by simp,λ_ _ _ _=>trivial⟩,λw1=>⟨rfl,(),(rows,[],0),(by and_intros<;>first|rfl|trivial|simp),?_⟩⟩;refine⟨λs=>s=(rows,[],0)\/s=(Pg hd rows d,LB d,1),λs=>(1-s.2.2).toNat,.inl rfl,?_⟩;rintro _ (rfl|rfl)
 .refine⟨λ_=>?_,λc=>by simp at c⟩;dsimp only;have e0:List.getD [d] (Int.toNat 0) (0,(0,(0,(0,false))))=d:=rfl;rw[e0];refine⟨by omega,by simp,g1,by omega,λh1 w5=>?_,λh2 w7=>?_,λh3 lF=>?_,λh4 mz=>?_,λh5 mA=>?_,trivial⟩
  .have e:Pg hd rows d=rows.set d.2.1.toNat (Qa .xor .i64 (rows.getD d.2.1.toNat 0) (Je .i64 1 d.2.2.1)):=by
    unfold Pg;rw[z2 h1,Z09 (cW _ (by omega)) g5 (by omega)]
   have eb:LB d=[]:=by unfold LB;rw[z0 (by omega)]
   refine⟨g3,g4,g5,dj,g3,g4,rfl,gi,(Pg hd rows d,LB d,1),?_,.inr rfl,by simp⟩;rw[e,eb];exact(by and_intros<;>first|rfl|trivial|simp)
  .refine⟨(d.1,d.2.1,d.2.2.1,d.2.2.2.1,d.2.2.2.2,(rows.length:Int),hk,lw,hd,rows,[],d.1,d.2.1,d.2.2.1,d.2.2.2.1,d.2.2.2.2,[d],(([d].length:Nat):Int),0,decide ((0:Int)<(([d].length:Nat):Int)),d.1,d.2.1,d.2.2.1,d.2.2.2.1,d.2.2.2.2,2,hk,lw,hd,rows,d.1,d.2.1,d.2.2.1,d.2.2.2.1,d.2.2.2.2,w7),(rows,0),(by and_intros<;>first|rfl|trivial|simp),?_⟩;dsimp only;refine LoopP.count2 rows.length (λk x=>x=SY (Q8m d.2.2.1.toNat d.2.2.2.2) rows k) (Ac _ _).symm (λk x hk hx q hq=>?_);subst hx;dsimp only;have fK:=TK (Q8m d.2.2.1.toNat d.2.2.2.2) rows k;refine⟨λc=>?_,λc=>?_⟩
   .have c:k<rows.length:=by simpa using c
    have hr:=cW k c;have a7:=Q0l (Q8m d.2.2.1.toNat d.2.2.2.2) rows k 0 c;have hq:=hq _ c rfl;rw[<-a7] at hq;simp only[z7,En _ _ _ _ c,xl,fK,Z6f hr g5 (show d.2.2.1<24 by omega)];refine⟨by omega,by omega,g5,dj,by omega,by omega,λhu=>?_,λhu=>?_⟩
    .have hu:d.2.2.2.2=false:=by simpa using hu
     have ao:=Nat.or_lt_two_pow (x:=(rows.getD k 0).toNat) (y:=2 ^ d.2.2.1.toNat) (n:=24) (by omega) (Nat.pow_lt_pow_right (by omega) (by omega));have e2:∀ v:Int,((SY (Q8m d.2.2.1.toNat d.2.2.2.2) rows k).set k v).getD k 0=v:=λv=>by rw[Qf (by rw[xl];omega),List.getElem_set_self]
     simp only[e2,List.set_set];rw[Z09 (r:=(((rows.getD k 0).toNat ||| 2 ^ d.2.2.1.toNat:Nat):Int)) (by omega) g5 (by omega)];refine⟨by omega,by omega,g5,dj,by omega,by omega,lH k (by omega),_,?_,hq⟩;have:Q8m d.2.2.1.toNat d.2.2.2.2 (rows.getD k 0)=((((rows.getD k 0).toNat ||| 2 ^ d.2.2.1.toNat) ^^^ 2 ^ d.2.2.1.toNat:Nat):Int):=by unfold Q8m;rw[hu];rfl
     rw[this];exact(by and_intros<;>first|rfl|trivial|simp)
    .have hu:d.2.2.2.2=true:=by simpa using hu
     refine⟨lH k (by omega),_,?_,hq⟩;have:Q8m d.2.2.1.toNat d.2.2.2.2 (rows.getD k 0)=(((rows.getD k 0).toNat ||| 2 ^ d.2.2.1.toNat:Nat):Int):=by unfold Q8m;rw[hu];rfl
     rw[this];exact(by and_intros<;>first|rfl|trivial|simp)
   .have c:k=rows.length:=by
     have:¬ k<rows.length:=by simpa using c
     omega
    have e:SY (Q8m d.2.2.1.toNat d.2.2.2.2) rows k=Pg hd rows d:=by rw[c,O0];unfold Pg;rw[z0 (by omega),z2 h2];rfl
    have eb:LB d=[]:=by unfold LB;rw[z0 (by omega)]
    rw[e];refine⟨rfl,gi,(Pg hd rows d,LB d,1),?_,.inr rfl,by simp⟩;rw[eb];exact(by and_intros<;>first|rfl|trivial|simp)
  .refine⟨(rows,d.1,d.2.1,d.2.2.1,d.2.2.2.1,d.2.2.2.2,hd,hk,lw,hd,rows,[],d.1,d.2.1,d.2.2.1,d.2.2.2.1,d.2.2.2.2,[d],(([d].length:Nat):Int),0,decide ((0:Int)<(([d].length:Nat):Int)),d.1,d.2.1,d.2.2.1,d.2.2.2.1,d.2.2.2.2,3,hk,lw,hd,rows,d.1,d.2.1,d.2.2.1,d.2.2.2.1,d.2.2.2.2,lF),(0,0),(by and_intros<;>first|rfl|trivial|simp),?_⟩;dsimp only;have hr:=cW d.2.1.toNat (by omega);refine LoopP.count2 hd.toNat (λk x=>x=((Q8h hd.toNat (rows.getD d.2.1.toNat 0).toNat k:Nat):Int)) rfl (λk x hk hx q hq=>?_);subst hx;dsimp only;have bn:=Z0l (Q4q hd.toNat (rows.getD d.2.1.toNat 0).toNat k) (show k<=24 by omega) (show (rows.getD d.2.1.toNat 0).toNat<2 ^ 24 by omega);rw[show (((rows.getD d.2.1.toNat 0).toNat:Nat):Int)=rows.getD d.2.1.toNat 0 by omega] at bn;refine⟨λc=>?_,λc=>?_⟩
   .have c:k<hd.toNat:=by
     have:(k:Int)<hd:=by simpa using c
     omega
    refine⟨by omega,bn.2,g3,g4,by omega,lH k (by omega),_,?_,hq _ c rfl⟩;rw[bn.1];exact(by and_intros<;>first|rfl|trivial|simp)
   .have c:k=hd.toNat:=by
     have:¬ (k:Int)<hd:=by simpa using c
     omega
    have e:rows.set d.2.1.toNat ((Q8h hd.toNat (rows.getD d.2.1.toNat 0).toNat k:Nat):Int)=Pg hd rows d:=by rw[c];unfold Pg;rw[z0 (by omega),z0 (by omega),z2 h3]
    have eb:LB d=[]:=by unfold LB;rw[z0 (by omega)]
    rw[e];refine⟨g3,g4,rfl,gi,(Pg hd rows d,LB d,1),?_,.inr rfl,by simp⟩;rw[eb];exact(by and_intros<;>first|rfl|trivial|simp)
  .have et:Int.tmod (d.2.1+1) (rows.length:Int)=(((d.2.1.toNat+1) % rows.length:Nat):Int):=by
    rw[show d.2.1+1=((d.2.1.toNat+1:Nat):Int) by omega];rfl
   have ao:=xm (d.2.1.toNat+1) (show rows.length > 0 by omega);have e:Pg hd rows d=(rows.set d.2.1.toNat (rows.getD ((d.2.1.toNat+1) % rows.length) 0)).set ((d.2.1.toNat+1) % rows.length) (rows.getD d.2.1.toNat 0):=by unfold Pg;rw[z0 (by omega),z0 (by omega),z0 (by omega),z2 h4]
   have eb:LB d=[]:=by unfold LB;rw[z0 (by omega)]
   rw[et];simp only[z7,xl];refine⟨by rw[Qm];omega,by omega,g3,g4,by omega,by omega,g3,g4,by omega,by omega,trivial,gi,(Pg hd rows d,LB d,1),?_,.inr rfl,by simp⟩;rw[e,eb];exact(by and_intros<;>first|rfl|trivial|simp)
  .have e:Pg hd rows d=rows:=by
    unfold Pg;rw[z0 (by omega),z0 (by omega),z0 (by omega),z0 (by omega)]
   have eb:LB d=[(d.2.2.2.1,true)]:=by unfold LB;rw[z2 h5]
   refine⟨rfl,gi,(Pg hd rows d,LB d,1),?_,.inr rfl,by simp⟩;rw[e,eb];exact(by and_intros<;>first|rfl|trivial|simp)
 .refine⟨λc=>by simp at c,λ_=>⟨⟨dM,by dsimp only;omega⟩,?_⟩⟩;dsimp only;have ew:ZV hk lw hd (Pg hd rows d)=(Pg hd rows d).map (Gp lw):=by unfold ZV;rw[z2 k1]
  have er:Wy lw hd rows [d]=(ZV hk lw hd (Pg hd rows d)).map (EV d):=by rw[ew,x_];rfl
  rw[er];have rz:(ZV hk lw hd (Pg hd rows d)).length=rows.length:=by rw[ew,xB];exact k2
  have rA:∀ s∈ZV hk lw hd (Pg hd rows d),s.length=lw.length:=λs hs=>by rw[ew] at hs;obtain⟨r,_,rfl⟩:=zC.1 hs;simp[Gp]
  clear er ew;generalize ZV hk lw hd (Pg hd rows d)=W at *
  refine⟨(LB d,(W.length:Int)),(W,0),(by and_intros<;>first|rfl|trivial|simp),?_⟩;dsimp only;refine LoopP.count2 W.length (λk x=>x=SY (EV d) W k) (Ac _ _).symm (λk x hk hx q hq=>?_);subst hx;dsimp only;have fK:=TK (EV d) W k;refine⟨λc=>?_,λc=>?_⟩
  .have c:k<W.length:=by simpa using c
   have fy:(W.getD k []).length=lw.length:=by rw[Qf c];exact rA _ (zd c)
   have a7:=Q0l (EV d) W k [] c;have hq:=hq _ c rfl;rw[<-a7] at hq;simp only[z7,En _ _ _ _ c];generalize W.getD k []=S at *
   refine⟨by omega,by omega,by omega,(SY (EV d) W k,LB d,(k:Int),(W.length:Int),(k:Int),LB d),(S.map (λ(b:UInt8)=>((b.toNat:Nat):Int)),[]),(by and_intros<;>first|rfl|trivial|simp),?_⟩;dsimp only;refine⟨λs=>s=(S.map (λ(b:UInt8)=>((b.toNat:Nat):Int)),[])\/d.1=5/\s=((S.map (λ(b:UInt8)=>((b.toNat:Nat):Int))).set d.2.2.2.1.toNat 46,[0]),λs=>1-s.2.length,.inl rfl,?_⟩;have he:(SY (EV d) W k).isEmpty=((SY (EV d) W k).set k (EV d S)).isEmpty:=by
    generalize SY (EV d) W k=M;cases M with
    |nil=>rfl
    |cons a l=>cases k<;>rfl
   rintro _ (rfl|⟨h5,rfl⟩)
   .dsimp only;refine⟨λha=>?_,λr hr hn=>?_⟩
    .have h5:d.1≠5:=λh5=>by
      have:=ha 0 (by unfold LB;rw[z2 h5];simp);simp at this
     have hx:M4 (S.map λ(b:UInt8)=>((b.toNat:Nat):Int))=EV d S:=by rw[Ee];unfold EV;rw[z0 h5]
     refine⟨by omega,by omega,lH k (by omega),((SY (EV d) W k).set k (EV d S),(k:Int)+1),?_,hq⟩;rw[hx,he];exact(by and_intros<;>first|rfl|trivial|simp)
    .have h5:d.1=5:=Classical.byContradiction λh5=>by
      unfold LB at hr;rw[z0 h5] at hr;simp at hr
     have eb:LB d=[(d.2.2.2.1,true)]:=by unfold LB;rw[z2 h5]
     rw[eb] at hr |-;have hr:r=0:=by simp at hr;exact hr
     subst hr;refine⟨by simp,g7,?_,_,(by and_intros<;>first|rfl|trivial|simp),.inr ⟨h5,rfl⟩,by simp⟩;show d.2.2.2.1<_;simp only[xB];omega
   .dsimp only;refine⟨λha=>?_,λr hr hn=>?_⟩
    .have hx:M4 ((S.map λ(b:UInt8)=>((b.toNat:Nat):Int)).set d.2.2.2.1.toNat 46)=EV d S:=by rw[Z0a];unfold EV;rw[z2 h5]
     refine⟨by omega,by omega,lH k (by omega),((SY (EV d) W k).set k (EV d S),(k:Int)+1),?_,hq⟩;rw[hx,he];exact(by and_intros<;>first|rfl|trivial|simp)
    .have eb:LB d=[(d.2.2.2.1,true)]:=by unfold LB;rw[z2 h5]
     rw[eb] at hr;have hr:r=0:=by simp at hr;exact hr
     subst hr;simp at hn
  .have c:k=W.length:=by
    have:¬ k<W.length:=by simpa using c
    omega
   rw[c,O0];cases W with
   |nil=>simp at rz;omega
   |cons a l=>exact(by and_intros<;>first|rfl|trivial|simp)
def Cv (hk:Int) (lw:List Int) (hd:Int) (rows:List Int) (ds:List Dmg) (n:Int):List (List UInt8):=if JM hk lw hd rows ds n=0 then J0g lw hd rows ds n.toNat else []
theorem Og {hk:Int}{lw:List Int}{hd:Int}{rows:List Int}{ds:List Dmg}{n:Int}(h:JM hk lw hd rows ds n=0):Q7 hk lw hd rows=0/\(∀ z∈ds,P3 hd rows lw z=true)/\1<=n/\n<=120:=by
 unfold JM at h;split at h
 .exact(absurd h ‹_›)
 .rename_i h1;split at h
  .rename_i h2;have h1:YD hk lw hd rows ds=0:=by omega
   unfold YD at h1;split at h1
   .exact(absurd h1 ‹_›)
   .rename_i h3;split at h1
    .cases h1
    .split at h1
     .cases h1
     .rename_i h4;have h4:(ds.any λd=>!P3 hd rows lw d)=false:=by simpa using h4
      unfold inI at h2;simp only[z1,z6] at h2;exact⟨by omega,λz hz=>by simpa using xc.1 h4 z hz,h2.1,h2.2⟩
  .cases h
theorem Z9r {hk:Int}{lw:List Int}{hd:Int}{rows:List Int}{ds:List Dmg}{n:Int}(h1:Q7 hk lw hd rows=0) (h2:∀ z∈ds,P3 hd rows lw z=true) (h3:ds.length<=100) (h4:1<=n) (h5:n<=120):JM hk lw hd rows ds n=0:=by
 have e1:YD hk lw hd rows ds=0:=by unfold YD;rw[z0 (by omega),z0 (by omega),z0];intro h;obtain⟨z,hz,h6⟩:=xx.1 h;rw[h2 z hz] at h6;cases h6
 unfold JM;rw[z0 (by omega),z2 (by unfold inI;simp only[z1,z6];omega)]
def Z6z (w:Nat) (c:List (List UInt8)):Prop:=∀ s∈c,s.length=w/\∀ b∈s,b=46\/b=120
theorem Z05 (lw:List Int) (r:Int):(Gp lw r).length=lw.length/\∀ b∈Gp lw r,b=46\/b=120:=by
 refine⟨by simp[Gp],λb hb=>?_⟩;obtain⟨k,_,rfl⟩:=zC.1 hb;split
 .exact .inr rfl
 .exact .inl rfl
theorem Z7e {w:Nat}{s:List UInt8}(d:Dmg) (h:s.length=w/\∀ b∈s,b=46\/b=120):(EV d s).length=w/\∀ b∈EV d s,b=46\/b=120:=by
 unfold EV;split
 .refine⟨by simpa using h.1,λb hb=>?_⟩;rcases List.mem_or_eq_of_mem_set hb with h1|h1
  .exact h.2 b h1
  .exact .inl h1
 .exact h
theorem Lt {hk:Int}{lw:List Int}{hd:Int}{rows:List Int}{ds:List Dmg}(hw:Q7 hk lw hd rows=0) (hz:∀ z∈ds,P3 hd rows lw z=true):(Wy lw hd rows ds).length=rows.length/\Z6z lw.length (Wy lw hd rows ds):=by
 cases ds with
 |nil =>refine⟨by simp[Wy],λs hs=>?_⟩;obtain⟨r,_,rfl⟩:=zC.1 hs;exact Z05 lw r
 |cons d l =>have dO:=hz d (by simp);refine⟨by show ((Pg hd rows d).map _).length=_;rw[xB];exact(Q4k hw dO).2,λs hs=>?_⟩;obtain⟨r,_,rfl⟩:=zC.1 hs;exact Z7e d (Z05 lw r)
theorem Q9r (a:UInt8):(((a.toNat:Nat):Int)==120)=(a==120):=by
 by_cases h:a=120
 .subst h;rfl
 .have h1:a.toNat≠120:=λe=>h (UInt8.toNat_inj.1 e);have e1:(a==120)=false:=by simpa using h
  have e2:(((a.toNat:Nat):Int)==120)=false:=by simp only[zW,ne_eq];omega
  rw[e1,e2]
def Pm:AL ((Int×List Int×Int×List Int)×Unit×Int):=(.cons (.agg (.cons (.k (.i .i64)) (.cons (.k (.list (.i .i64))) (.cons (.k (.i .i64)) (.one (.k (.list (.i .i64)))))))) (.cons .nilS (.one (.k (.i .i64)))))
def Er (d:(Int×List Int×Int×List Int)×Unit×Int):Prop:=d.1.2.1.length<=110/\d.1.2.2.2.length<=110
def BF (d:(Int×List Int×Int×List Int)×Unit×Int):SV:=.tup [.lst 0,.val (.i .i64) (JM d.1.1 d.1.2.1 d.1.2.2.1 d.1.2.2.2 [] d.2.2)]
def HD (d:(Int×List Int×Int×List Int)×Unit×Int):List OB:=[.lst 9 .st (Cv d.1.1 d.1.2.1 d.1.2.2.1 d.1.2.2.2 [] d.2.2) ((Cv d.1.1 d.1.2.1 d.1.2.2.1 d.1.2.2.2 [] d.2.2).isEmpty)]
def GY:CSp:=Y9 Pm Er BF HD
def Ub (hk:Int) (lw:List Int) (hd:Int) (rows:List Int) (n:Int):Prop :=
 (lw.length<=110/\rows.length<=110/\([]:List (Int×Int×Int×Int×Bool)).length<=1000)/\(((JM hk lw hd rows ([]:List (Int×Int×Int×Int×Bool)) n) != (0:Int))=true ->
  ((True/\(JM hk lw hd rows ([]:List (Int×Int×Int×Int×Bool)) n)=JM hk lw hd rows [] n/\(([]:List SV)=[]))/\(((Cv hk lw hd rows [] n)=[]/\(Cv hk lw hd rows [] n).isEmpty=true)/\True))) /\
 (((JM hk lw hd rows ([]:List (Int×Int×Int×Int×Bool)) n) != (0:Int))=false ->
  (Q7 hk lw hd rows=0/\lw.length<=110/\rows.length<=110)/\∃ (e4:Unit) (d40:(List (List UInt8))×Int),((True/\True/\n=n/\(0:Int)=d40.2/\True)/\((d40.1=[]/\(List.isEmpty d40.1)=true)/\((Wy lw hd rows [])=(Wy lw hd rows [])/\false=false)/\True)) /\
  LoopP (λ(d4:(List (List UInt8))×Int) (q4:((List (List UInt8))×Int)->Prop) =>
   ((decide (d4.2<n))=true ->
    ((lI (Wy lw hd rows []))≠0)/\(0<=(Int.tmod d4.2 (lI (Wy lw hd rows []))))/\((Int.tmod d4.2 (lI (Wy lw hd rows [])))<(List.length (Wy lw hd rows [])))/\(((List.length d4.1)+(List.length [(gD (Wy lw hd rows []) (Int.tmod d4.2 (lI (Wy lw hd rows []))) [])]))*16<=70368744177664)/\(I64 (d4.2+(1:Int)))/\(∃ d5:(List (List UInt8))×Int,((True/\True/\n=n/\(d4.2+(1:Int))=d5.2/\True)/\(((d4.1++[(gD (Wy lw hd rows []) (Int.tmod d4.2 (lI (Wy lw hd rows []))) [])])=d5.1/\false=(List.isEmpty d5.1))/\((Wy lw hd rows [])=(Wy lw hd rows [])/\false=false)/\True))/\q4 d5)) /\
   ((decide (d4.2<n))=false ->
    ((True/\(0:Int)=JM hk lw hd rows [] n/\(([]:List SV)=[]))/\((d4.1=(Cv hk lw hd rows [] n)/\(List.isEmpty d4.1)=(Cv hk lw hd rows [] n).isEmpty)/\True)))) d40)
def PM:Cx:=⟨[(9,.st)],[(26,Mh),(27,CSp.or JS Zy)],38,[],0,[],[],[],[],false,[],[],[],[]⟩
def Fp (hk:Int) (lw:List Int) (hd:Int) (rows:List Int) (n:Int):List (Nat×LoopAnn):=[(0,⟨Unit,(List (List UInt8))×Int,[6,9,22,23],λe x=>[.lst 35,.lst 21,.val (.i .i64) n,.val (.i .i64) x.2],λe x=>[(35,.slot 6,.lst 9 .st x.1 (List.isEmpty x.1)),(21,.slot 9,.lst 9 .st (Wy lw hd rows []) false)]⟩)]
theorem F5 (d:(Int×List Int×Int×List Int)×Unit×Int):gwp (PM) (Fp d.1.1 d.1.2.1 d.1.2.2.1 d.1.2.2.2 d.2.2) c9 0 (Yh [.tmp 6,.tmp 7] (BF d) (HD d)) (Qo 38 (AL.can Pm d))=Ub d.1.1 d.1.2.1 d.1.2.2.1 d.1.2.2.2 d.2.2:=by kernel_rfl
abbrev I5:Prop:=OkC Tryz.prog 9 GY
theorem Fm (h:∀ (hk:Int) (lw:List Int) (hd:Int) (rows:List Int) (n:Int),(lw.length<=110/\rows.length<=110)->Ub hk lw hd rows n):OkC Tryz.prog 9 GY :=
 Qu J0r mixed (C:=PM) (V:=λ(d:(Int×List Int×Int×List Int)×Unit×Int)=>Ub d.1.1 d.1.2.1 d.1.2.2.1 d.1.2.2.2 d.2.2) ⟨(.cons Rh (.cons (OkC.or Y5 JQ) .nil)),XsOk.nil,ItsOk.nil,YlOk.nil,IysOk.nil,XfOk.nil⟩ (F5) λd hp=>h d.1.1 d.1.2.1 d.1.2.2.1 d.1.2.2.2 d.2.2 hp
theorem Ii:I5:=Fm λhk lw hd rows n h=>by
 obtain⟨dM,bG⟩:=h;unfold Ub;(try delta lI gD sT I64 Q1 pj8 pj4);refine⟨⟨dM,bG,by simp⟩,λh1=>?_,λh1=>?_⟩
 .have h1:JM hk lw hd rows [] n≠0:=by simpa using h1
  have e:Cv hk lw hd rows [] n=[]:=by unfold Cv;rw[z0 h1]
  rw[e];exact(by and_intros<;>first|rfl|trivial|simp)
 .have h1:JM hk lw hd rows [] n=0:=by simpa using h1
  have ef:Cv hk lw hd rows [] n=J0g lw hd rows [] n.toNat:=by unfold Cv;rw[z2 h1]
  rw[h1,ef];clear ef;obtain⟨hw,hz,fx,dJ⟩:=Og h1;have hr:=(Lt hw hz).1;obtain⟨_,_,_,_,f4,_⟩:=U8 hw;obtain⟨N,rfl⟩:=zm (show 0<=n by omega);refine⟨⟨hw,dM,bG⟩,(),([],0),(by and_intros<;>first|rfl|trivial|simp),?_⟩;refine LoopP.count2 N (λk x=>x=(List.range k).map λi=>(Wy lw hd rows []).getD (i % (Wy lw hd rows []).length) []) rfl (λk x hk hx q hq=>?_);subst hx;dsimp only;rw[show Int.tmod (k:Int) ((Wy lw hd rows []).length:Int)=((k % (Wy lw hd rows []).length:Nat):Int) from rfl];simp only[z7,xB,List.length_range,zr,List.length_nil];have ao:=xm k (show (Wy lw hd rows []).length > 0 by omega);refine⟨λc=>?_,λc=>?_⟩
  .have c:k<N:=by simpa using c
   have hq:=hq _ c rfl;rw[List.range_succ,xi] at hq;refine⟨by omega,by omega,by omega,by omega,by rw[Qm];omega,_,?_,hq⟩;exact(by and_intros<;>first|rfl|trivial|simp)
  .have c:k=N:=by
    have:¬ k<N:=by simpa using c
    omega
   subst c;exact(by and_intros<;>first|rfl|trivial|simp)
def NU:AL ((Int×List Int×Int×List Int)×(List (Int×Int×Int×Int×Bool))×Int):=(.cons (.agg (.cons (.k (.i .i64)) (.cons (.k (.list (.i .i64))) (.cons (.k (.i .i64)) (.one (.k (.list (.i .i64)))))))) (.cons (.k (.list (.pair (.i .i64) (.pair (.i .i64) (.pair (.i .i64) (.pair (.i .i64) .bo)))))) (.one (.k (.i .i64)))))
def Pc (d:(Int×List Int×Int×List Int)×(List (Int×Int×Int×Int×Bool))×Int):Prop:=d.1.2.1.length<=110/\d.1.2.2.2.length<=110/\d.2.1.length=1
def UW (d:(Int×List Int×Int×List Int)×(List (Int×Int×Int×Int×Bool))×Int):SV:=.tup [.lst 0,.val (.i .i64) (JM d.1.1 d.1.2.1 d.1.2.2.1 d.1.2.2.2 d.2.1 d.2.2)]
def UM (d:(Int×List Int×Int×List Int)×(List (Int×Int×Int×Int×Bool))×Int):List OB:=[.lst 9 .st (Cv d.1.1 d.1.2.1 d.1.2.2.1 d.1.2.2.2 d.2.1 d.2.2) ((Cv d.1.1 d.1.2.1 d.1.2.2.1 d.1.2.2.2 d.2.1 d.2.2).isEmpty)]
def V8:CSp:=Y9 NU Pc UW UM
def WZ (hk:Int) (lw:List Int) (hd:Int) (rows:List Int) (ds:List (Int×Int×Int×Int×Bool)) (n:Int):Prop :=
 (lw.length<=110/\rows.length<=110/\ds.length<=1000)/\(((JM hk lw hd rows ds n) != (0:Int))=true ->
  ((True/\(JM hk lw hd rows ds n)=JM hk lw hd rows ds n/\(([]:List SV)=[]))/\(((Cv hk lw hd rows ds n)=[]/\(Cv hk lw hd rows ds n).isEmpty=true)/\True))) /\
 (((JM hk lw hd rows ds n) != (0:Int))=false ->
  (Q7 hk lw hd rows=0/\lw.length<=110/\rows.length<=110/\ds.length=1/\∀ z∈ds,P3 hd rows lw z=true)/\∃ (e4:Unit) (d40:(List (List UInt8))×Int),((True/\True/\n=n/\(0:Int)=d40.2/\True)/\((d40.1=[]/\(List.isEmpty d40.1)=true)/\((Wy lw hd rows ds)=(Wy lw hd rows ds)/\false=false)/\True)) /\
  LoopP (λ(d4:(List (List UInt8))×Int) (q4:((List (List UInt8))×Int)->Prop) =>
   ((decide (d4.2<n))=true ->
    ((lI (Wy lw hd rows ds))≠0)/\(0<=(Int.tmod d4.2 (lI (Wy lw hd rows ds))))/\((Int.tmod d4.2 (lI (Wy lw hd rows ds)))<(List.length (Wy lw hd rows ds)))/\(((List.length d4.1)+(List.length [(gD (Wy lw hd rows ds) (Int.tmod d4.2 (lI (Wy lw hd rows ds))) [])]))*16<=70368744177664)/\(I64 (d4.2+(1:Int)))/\(∃ d5:(List (List UInt8))×Int,((True/\True/\n=n/\(d4.2+(1:Int))=d5.2/\True)/\(((d4.1++[(gD (Wy lw hd rows ds) (Int.tmod d4.2 (lI (Wy lw hd rows ds))) [])])=d5.1/\false=(List.isEmpty d5.1))/\((Wy lw hd rows ds)=(Wy lw hd rows ds)/\false=false)/\True))/\q4 d5)) /\
   ((decide (d4.2<n))=false ->
    ((True/\(0:Int)=JM hk lw hd rows ds n/\(([]:List SV)=[]))/\((d4.1=(Cv hk lw hd rows ds n)/\(List.isEmpty d4.1)=(Cv hk lw hd rows ds n).isEmpty)/\True)))) d40)
def NA:Cx:=⟨[(9,.st)],[(26,Mh),(27,CSp.or JS Zy)],38,[],0,[],[],[],[],false,[],[],[],[]⟩
def TI (hk:Int) (lw:List Int) (hd:Int) (rows:List Int) (ds:List (Int×Int×Int×Int×Bool)) (n:Int):List (Nat×LoopAnn):=[(0,⟨Unit,(List (List UInt8))×Int,[6,9,22,23],λe x=>[.lst 35,.lst 21,.val (.i .i64) n,.val (.i .i64) x.2],λe x=>[(35,.slot 6,.lst 9 .st x.1 (List.isEmpty x.1)),(21,.slot 9,.lst 9 .st (Wy lw hd rows ds) false)]⟩)]
theorem Tq (d:(Int×List Int×Int×List Int)×(List (Int×Int×Int×Int×Bool))×Int):gwp (NA) (TI d.1.1 d.1.2.1 d.1.2.2.1 d.1.2.2.2 d.2.1 d.2.2) c9 0 (Yh [.tmp 6,.tmp 7] (UW d) (UM d)) (Qo 38 (AL.can NU d))=WZ d.1.1 d.1.2.1 d.1.2.2.1 d.1.2.2.2 d.2.1 d.2.2:=by kernel_rfl
abbrev Tr:Prop:=OkC Tryz.prog 9 V8
theorem Th (h:∀ (hk:Int) (lw:List Int) (hd:Int) (rows:List Int) (ds:List (Int×Int×Int×Int×Bool)) (n:Int),(lw.length<=110/\rows.length<=110/\ds.length=1)->WZ hk lw hd rows ds n):OkC Tryz.prog 9 V8 :=
 Qu J0r mixed (C:=NA) (V:=λ(d:(Int×List Int×Int×List Int)×(List (Int×Int×Int×Int×Bool))×Int)=>WZ d.1.1 d.1.2.1 d.1.2.2.1 d.1.2.2.2 d.2.1 d.2.2) ⟨(.cons Rh (.cons (OkC.or Y5 JQ) .nil)),XsOk.nil,ItsOk.nil,YlOk.nil,IysOk.nil,XfOk.nil⟩ (Tq) λd hp=>h d.1.1 d.1.2.1 d.1.2.2.1 d.1.2.2.2 d.2.1 d.2.2 hp
theorem TH:Tr:=Th λhk lw hd rows ds n h=>by
 obtain⟨dM,bG,hl⟩:=h;unfold WZ;(try delta lI gD sT I64 Q1 pj8 pj4);refine⟨⟨dM,bG,by omega⟩,λh1=>?_,λh1=>?_⟩
 .have h1:JM hk lw hd rows ds n≠0:=by simpa using h1
  have e:Cv hk lw hd rows ds n=[]:=by unfold Cv;rw[z0 h1]
  rw[e];exact(by and_intros<;>first|rfl|trivial|simp)
 .have h1:JM hk lw hd rows ds n=0:=by simpa using h1
  have ef:Cv hk lw hd rows ds n=J0g lw hd rows ds n.toNat:=by unfold Cv;rw[z2 h1]
  rw[h1,ef];clear ef;obtain⟨hw,hz,fx,dJ⟩:=Og h1;have hr:=(Lt hw hz).1;obtain⟨_,_,_,_,f4,_⟩:=U8 hw;obtain⟨N,rfl⟩:=zm (show 0<=n by omega);refine⟨⟨hw,dM,bG,hl,hz⟩,(),([],0),(by and_intros<;>first|rfl|trivial|simp),?_⟩;refine LoopP.count2 N (λk x=>x=(List.range k).map λi=>(Wy lw hd rows ds).getD (i % (Wy lw hd rows ds).length) []) rfl (λk x hk hx q hq=>?_);subst hx;dsimp only;rw[show Int.tmod (k:Int) ((Wy lw hd rows ds).length:Int)=((k % (Wy lw hd rows ds).length:Nat):Int) from rfl];simp only[z7,xB,List.length_range,zr,List.length_nil];have ao:=xm k (show (Wy lw hd rows ds).length > 0 by omega);refine⟨λc=>?_,λc=>?_⟩
  .have c:k<N:=by simpa using c
   have hq:=hq _ c rfl;rw[List.range_succ,xi] at hq;refine⟨by omega,by omega,by omega,by omega,by rw[Qm];omega,_,?_,hq⟩;exact(by and_intros<;>first|rfl|trivial|simp)
  .have c:k=N:=by
    have:¬ k<N:=by simpa using c
    omega
   subst c;exact(by and_intros<;>first|rfl|trivial|simp)
abbrev Sgt:=Int×Int×Bool
def Q80 (cl:List (List UInt8)) (s:Sgt):Bool:=((cl.getD (s.1.toNat % cl.length) []).getD s.2.1.toNat 0==120)==s.2.2
def Q8k (lw:List Int) (s:Sgt):Bool:=inI s.1 0 119&&inI s.2.1 0 (lw.length-1)
def dmC (hd n:Nat):List Dmg:=(List.range n).map λ(i:Nat)=>((1:Int),(((i / hd:Nat):Int),(((i % hd:Nat):Int),((0:Int),false))))
def dmN (n:Nat):List Dmg:=(List.range n).flatMap λ(h:Nat)=>[((2:Int),((0:Int),((h:Int),((0:Int),false)))),((2:Int),((0:Int),((h:Int),((0:Int),true))))]
def dmP (k:Int) (n:Nat):List Dmg:=(List.range n).map λ(p:Nat)=>(k,((p:Int),((0:Int),((0:Int),false))))
def dmT (n:Nat):List Dmg:=(List.range n).map λ(w:Nat)=>((5:Int),((0:Int),((0:Int),((w:Int),false))))
def dmA (hd:Int) (rows lw:List Int):List Dmg:=dmC hd.toNat (rows.length*hd.toNat)++dmN hd.toNat++dmP 3 rows.length++dmP 4 rows.length++dmT lw.length
def KA (hk:Int) (lw:List Int) (hd:Int) (rows:List Int) (ss:List Sgt):Int:=if Q7 hk lw hd rows≠0 then Q7 hk lw hd rows else if 60<ss.length then 5 else if ss.any (λs=>!Q8k lw s) then 2 else 0
def Bo (lw:List Int) (hd:Int) (rows:List Int) (ss:List Sgt) (d:Dmg):Bool:=!(Wy lw hd rows [d]==Wy lw hd rows [])&&ss.all (Q80 (Wy lw hd rows [d]))
def Lf (hk:Int) (lw:List Int) (hd:Int) (rows:List Int) (ss:List Sgt):List Dmg:=if KA hk lw hd rows ss=0 then (dmA hd rows lw).filter (Bo lw hd rows ss) else []
def Q6u (hk:Int) (lw:List Int) (hd:Int) (rows:List Int) (ss:List Sgt):Bool:=if KA hk lw hd rows ss=0 then ss.all (Q80 (Wy lw hd rows [])) else false
theorem Z1f (hd n:Nat):dmC hd (n+1)=dmC hd n++[((1:Int),(((n / hd:Nat):Int),(((n % hd:Nat):Int),((0:Int),false))))]:=by unfold dmC;rw[List.range_succ,xi];rfl
theorem Q53 (n:Nat):dmN (n+1)=dmN n++[((2:Int),((0:Int),((n:Int),((0:Int),false)))),((2:Int),((0:Int),((n:Int),((0:Int),true))))]:=by unfold dmN;rw[List.range_succ,List.flatMap_append];simp only[List.flatMap_cons,List.flatMap_nil,xt]
theorem Q6f (k:Int) (n:Nat):dmP k (n+1)=dmP k n++[(k,((n:Int),((0:Int),((0:Int),false))))]:=by unfold dmP;rw[List.range_succ,xi];rfl
theorem Z1j (n:Nat):dmT (n+1)=dmT n++[((5:Int),((0:Int),((0:Int),((n:Int),false))))]:=by unfold dmT;rw[List.range_succ,xi];rfl
theorem Q3m (hd n:Nat):(dmC hd n).length=n:=by simp[dmC]
theorem Oy:∀ n:Nat,(dmN n).length=2*n
 |0=>by simp[dmN]
 |n+1=>by rw[Q53,zn,Oy n];simp;omega
theorem SJ (k:Int) (n:Nat):(dmP k n).length=n:=by simp[dmP]
theorem Q3w (n:Nat):(dmT n).length=n:=by simp[dmT]
theorem Z6e {hd:Int}{rows lw:List Int}(h1:1<=hd) (h2:1<=rows.length) (h3:1<=lw.length):∀ d∈dmA hd rows lw,P3 hd rows lw d=true:=by
 have aQ:∀ (x a b:Int),a<=x->x<=b->inI x a b=true:=λx a b h4 h5=>by unfold inI;rw[zG h4,zG h5];rfl
 have key:∀ (k p h w:Int) (u:Bool),(inI k 1 5&&(if k=1 then w==0&&!u else if k=2 then p==0&&w==0 else if k=5 then p==0&&h==0&&!u else h==0&&w==0&&!u))=true->0<=p->p<rows.length->0<=h->h<hd->0<=w->w<lw.length->P3 hd rows lw (k,(p,(h,(w,u))))=true:=λk p h w u e a1 a2 a3 a4 a5 a6=>by unfold P3;dsimp only;rw[e,aQ p 0 _ a1 (by omega),aQ h 0 _ a3 (by omega),aQ w 0 _ a5 (by omega)];rfl
 intro d dO;simp only[dmA,xh] at dO;rcases dO with (((dO|dO)|dO)|dO)|dO
 .obtain⟨i,hi,rfl⟩:=zC.1 dO;have hi:=zQ.1 hi;have e1:i / hd.toNat<rows.length:=Nat.div_lt_of_lt_mul (by rw[xZ];exact hi);have e2:=xm i (show hd.toNat > 0 by omega);generalize i / hd.toNat=a at *
  generalize i % hd.toNat=b at *
  exact key _ _ _ _ _ rfl (by omega) (by omega) (by omega) (by omega) (by omega) (by omega)
 .obtain⟨h,hh,dO⟩:=List.mem_flatMap.1 dO;have hh:=zQ.1 hh;rcases zB.1 dO with rfl|dO
  .exact key _ _ _ _ _ rfl (by omega) (by omega) (by omega) (by omega) (by omega) (by omega)
  .rw[zx.1 dO];exact key _ _ _ _ _ rfl (by omega) (by omega) (by omega) (by omega) (by omega) (by omega)
 .obtain⟨p,hp,rfl⟩:=zC.1 dO;have hp:=zQ.1 hp;exact key _ _ _ _ _ rfl (by omega) (by omega) (by omega) (by omega) (by omega) (by omega)
 .obtain⟨p,hp,rfl⟩:=zC.1 dO;have hp:=zQ.1 hp;exact key _ _ _ _ _ rfl (by omega) (by omega) (by omega) (by omega) (by omega) (by omega)
 .obtain⟨w,hw,rfl⟩:=zC.1 dO;have hw:=zQ.1 hw;exact key _ _ _ _ _ rfl (by omega) (by omega) (by omega) (by omega) (by omega) (by omega)
theorem Z2q {hk:Int}{lw:List Int}{hd:Int}{rows:List Int}{ss:List Sgt}(h:KA hk lw hd rows ss=0):Q7 hk lw hd rows=0/\ss.length<=60/\∀ s∈ss,Q8k lw s=true:=by
 unfold KA at h;split at h
 .exact(absurd h ‹_›)
 .split at h
  .cases h
  .split at h
   .cases h
   .rename_i h3;have h3:(ss.any λs=>!Q8k lw s)=false:=by simpa using h3
    exact⟨by omega,by omega,λs hs=>by simpa using xc.1 h3 s hs⟩
theorem Q3c {lw:List Int}{s:Sgt}(h:Q8k lw s=true):0<=s.1/\s.1<=119/\0<=s.2.1/\s.2.1<lw.length:=by unfold Q8k inI at h;simp only[z1,z6] at h;omega
def HP:AL ((Int×Int×Bool)×List (List UInt8)):=(.cons (.agg (.cons (.k (.i .i64)) (.cons (.k (.i .i64)) (.one (.k .bo))))) (.one (.ptr (.one (.k (.list .st))))))
def LS (d:(Int×Int×Bool)×List (List UInt8)):Prop:=d.2≠[]/\0<=d.1.1/\0<=d.1.2.1/\∀ s∈d.2,d.1.2.1<s.length
def Dz (d:(Int×Int×Bool)×List (List UInt8)):SV:=.val .bo (!(Q80 d.2 (d.1.1,(d.1.2.1,d.1.2.2))))
def DI (d:(Int×Int×Bool)×List (List UInt8)):List OB:=[]
def MX:CSp:=Y9 HP LS Dz DI
def V2 (sp:Int) (sw:Int) (su:Bool) (cl:List (List UInt8)):Prop :=
 ((lI cl)≠0)/\(0<=(Int.tmod sp (lI cl)))/\((Int.tmod sp (lI cl))<(List.length cl))/\(0<=sw)/\(sw<(List.length (gD cl (Int.tmod sp (lI cl)) [])))/\((!((((UInt8.toNat (gD (gD cl (Int.tmod sp (lI cl)) []) sw 0):Nat):Int)==(120:Int))==su))=(!(Q80 cl (sp,(sw,su))))/\(True))
def HM:Cx:=⟨[],[],19,[],0,[],[],[],[],false,[],[],[],[]⟩
def AH (sp:Int) (sw:Int) (su:Bool) (cl:List (List UInt8)):List (Nat×LoopAnn):=[]
theorem AI (d:(Int×Int×Bool)×List (List UInt8)):gwp (HM) (AH d.1.1 d.1.2.1 d.1.2.2 d.2) c65 0 (Yh [.tmp 3] (Dz d) (DI d)) (Qo 19 (AL.can HP d))=V2 d.1.1 d.1.2.1 d.1.2.2 d.2:=by kernel_rfl
abbrev Ec:Prop:=OkC Tryz.prog 65 MX
theorem AZ (h:∀ (sp:Int) (sw:Int) (su:Bool) (cl:List (List UInt8)),(cl≠[]/\0<=sp/\0<=sw/\∀ s∈cl,sw<s.length)->V2 sp sw su cl):OkC Tryz.prog 65 MX :=
 Qu Z7i mixed (C:=HM) (V:=λ(d:(Int×Int×Bool)×List (List UInt8))=>V2 d.1.1 d.1.2.1 d.1.2.2 d.2) ⟨.nil,XsOk.nil,ItsOk.nil,YlOk.nil,IysOk.nil,XfOk.nil⟩ (AI) λd hp=>h d.1.1 d.1.2.1 d.1.2.2 d.2 hp
theorem Ei:Ec:=AZ λsp sw su cl h=>by
 obtain⟨h1,h2,h3,h4⟩:=h;unfold V2;(try delta lI gD sT I64 Q1 pj8 pj4);have hl:0<cl.length:=x4.2 h1;have e:sp.tmod (cl.length:Int)=((sp.toNat % cl.length:Nat):Int):=by
  conv=>lhs;rw[show sp=((sp.toNat:Nat):Int) by omega]
  rfl
 have hm:=xm sp.toNat hl;have h5:=h4 _ (zd hm);rw[e];simp only[z7];rw[<-Qf (d:=[]) hm] at h5;refine⟨by omega,by omega,by omega,h3,h5,?_,trivial⟩;rw[Q9r];rfl
def ZA:AL ((List (Int×Int×Bool))×((Int×Int×Bool->Prop)×(Int×Int×Bool->Bool))):=(.cons (.k (.list (.pair (.i .i64) (.pair (.i .i64) .bo)))) (.one (.fn [(.pair (.i .i64) (.pair (.i .i64) .bo))] .bo)))
def XN (d:(List (Int×Int×Bool))×((Int×Int×Bool->Prop)×(Int×Int×Bool->Bool))):Prop:=d.1.length<=1000000/\∀ x∈d.1,d.2.1 x
def Zs (d:(List (Int×Int×Bool))×((Int×Int×Bool->Prop)×(Int×Int×Bool->Bool))):SV:=.val (.i .i64) (Om d.1 d.2.2)
def Zv (d:(List (Int×Int×Bool))×((Int×Int×Bool->Prop)×(Int×Int×Bool->Bool))):List OB:=[]
def QJ:CSp:=Y9 ZA XN Zs Zv
def Qq (l:List (Int×Int×Bool)) (p:(Int×Int×Bool->Prop)×(Int×Int×Bool->Bool)):Prop :=
 ∃ (e2:Unit) (d20:Int),((l=l/\(SV.pf [(.pair (.i .i64) (.pair (.i .i64) .bo))] .bo p.1 p.2=SV.pf [(.pair (.i .i64) (.pair (.i .i64) .bo))] .bo p.1 p.2)/\(lI l)=(lI l)/\(0:Int)=d20/\True)/\(True)) /\
 LoopP (λ(d2:Int) (q2:(Int)->Prop) =>
  ((decide (d2<(lI l)))=true ->
   (0<=d2)/\(d2<(List.length l))/\(p.1 ((gD l d2 (0,(0,false))).1,((gD l d2 (0,(0,false))).2.1,(gD l d2 (0,(0,false))).2.2)))/\((p.2 ((gD l d2 (0,(0,false))).1,((gD l d2 (0,(0,false))).2.1,(gD l d2 (0,(0,false))).2.2)))=true ->
    (d2=(Om l p.2)/\(True))) /\
   ((p.2 ((gD l d2 (0,(0,false))).1,((gD l d2 (0,(0,false))).2.1,(gD l d2 (0,(0,false))).2.2)))=false ->
    (I64 (d2+(1:Int)))/\(∃ d3:Int,((l=l/\(SV.pf [(.pair (.i .i64) (.pair (.i .i64) .bo))] .bo p.1 p.2=SV.pf [(.pair (.i .i64) (.pair (.i .i64) .bo))] .bo p.1 p.2)/\(lI l)=(lI l)/\(d2+(1:Int))=d3/\True)/\(True))/\q2 d3))) /\
  ((decide (d2<(lI l)))=false ->
   ((-1:Int)=(Om l p.2)/\(True)))) d20
def Zz:Cx:=⟨[],[],19,[],0,[],[],[],[],false,[],[],[],[]⟩
def XU (l:List (Int×Int×Bool)) (p:(Int×Int×Bool->Prop)×(Int×Int×Bool->Bool)):List (Nat×LoopAnn):=[(0,⟨Unit,Int,[0,1,7,8],λe x=>[.val (.list (.pair (.i .i64) (.pair (.i .i64) .bo))) l,.pf [(.pair (.i .i64) (.pair (.i .i64) .bo))] .bo p.1 p.2,.val (.i .i64) (((List.length l):Nat):Int),.val (.i .i64) x],λe x=>[]⟩)]
theorem XW (d:(List (Int×Int×Bool))×((Int×Int×Bool->Prop)×(Int×Int×Bool->Bool))):gwp (Zz) (XU d.1 d.2) c62 0 (Yh [.tmp 4] (Zs d) (Zv d)) (Qo 19 (AL.can ZA d))=Qq d.1 d.2:=by kernel_rfl
abbrev XT:Prop:=OkC Tryz.prog 62 QJ
theorem XZ (h:∀ (l:List (Int×Int×Bool)) (p:(Int×Int×Bool->Prop)×(Int×Int×Bool->Bool)),(l.length<=1000000/\∀ x∈l,p.1 x)->Qq l p):OkC Tryz.prog 62 QJ :=
 Qu Z7s mixed (C:=Zz) (V:=λ(d:(List (Int×Int×Bool))×((Int×Int×Bool->Prop)×(Int×Int×Bool->Bool)))=>Qq d.1 d.2) ⟨.nil,XsOk.nil,ItsOk.nil,YlOk.nil,IysOk.nil,XfOk.nil⟩ (XW) λd hp=>h d.1 d.2 hp
theorem XY:XT:=XZ λl p hp=>by
 unfold Qq;(try delta lI gD sT I64 Q1 pj8 pj4);simp only[true_and,and_true,exists_eq_left',exists_const,z6,zy];refine LoopP.count l.length (λk=>(l.take k).any p.2=false) (by simp) λk bz hJ q hq=>?_;simp only[z7,Int.ofNat_lt,Qm];refine⟨λao=>?_,λcA=>?_⟩
 .have ao:k<l.length:=by omega
  rw[Qf ao];refine⟨by omega,by omega,hp.2 _ (zd ao),λhx=>?_,λhx=>⟨by omega,hq ao ?_⟩⟩
  .rw[AM ao hx hJ]
  .rw[QO ao,List.any_append,hJ];simp[hx]
 .rw[zP (by omega)] at hJ;rw[R7 hJ]
def Zd:AL ((List (Int×Int×Bool))×((Int×Int×Bool->Prop)×(Int×Int×Bool->Bool))):=(.cons (.k (.list (.pair (.i .i64) (.pair (.i .i64) .bo)))) (.one (.fn [(.pair (.i .i64) (.pair (.i .i64) .bo))] .bo)))
def X1 (d:(List (Int×Int×Bool))×((Int×Int×Bool->Prop)×(Int×Int×Bool->Bool))):Prop:=d.1.length<=1000000/\∀ x∈d.1,d.2.1 x
def Za (d:(List (Int×Int×Bool))×((Int×Int×Bool->Prop)×(Int×Int×Bool->Bool))):SV:=.val .bo (d.1.any d.2.2)
def Z9 (d:(List (Int×Int×Bool))×((Int×Int×Bool->Prop)×(Int×Int×Bool->Bool))):List OB:=[]
def Qk:CSp:=Y9 Zd X1 Za Z9
def Qh (l:List (Int×Int×Bool)) (p:(Int×Int×Bool->Prop)×(Int×Int×Bool->Bool)):Prop :=
 (l.length<=1000000/\∀ x∈l,(λ(x1:Int×Int×Bool)=>p.1 (x1.1,(x1.2.1,x1.2.2))) x)/\((decide ((Om l (λ(x1:Int×Int×Bool)=>(p.2 (x1.1,(x1.2.1,x1.2.2)))))>=(0:Int)))=(l.any p.2)/\(True))
def Zg:Cx:=⟨[],[(62,QJ)],9,[],0,[],[],[],[],false,[],[],[],[]⟩
def Xi (l:List (Int×Int×Bool)) (p:(Int×Int×Bool->Prop)×(Int×Int×Bool->Bool)):List (Nat×LoopAnn):=[]
theorem Xe (d:(List (Int×Int×Bool))×((Int×Int×Bool->Prop)×(Int×Int×Bool->Bool))):gwp (Zg) (Xi d.1 d.2) c36 0 (Yh [.tmp 4] (Za d) (Z9 d)) (Qo 9 (AL.can Zd d))=Qh d.1 d.2:=by kernel_rfl
abbrev Xf:Prop:=OkC Tryz.prog 36 Qk
theorem Xg (h:∀ (l:List (Int×Int×Bool)) (p:(Int×Int×Bool->Prop)×(Int×Int×Bool->Bool)),(l.length<=1000000/\∀ x∈l,p.1 x)->Qh l p):OkC Tryz.prog 36 Qk :=
 Qu Z7d mixed (C:=Zg) (V:=λ(d:(List (Int×Int×Bool))×((Int×Int×Bool->Prop)×(Int×Int×Bool->Bool)))=>Qh d.1 d.2) ⟨(.cons XY .nil),XsOk.nil,ItsOk.nil,YlOk.nil,IysOk.nil,XfOk.nil⟩ (Xe) λd hp=>h d.1 d.2 hp
theorem Ze:Xf:=Xg λl p hp=>by simp only[Qh];exact⟨hp,O1 l p.2,trivial⟩
def Ru:AL (List (List UInt8)×List (Int×Int×Bool)):=(.cons (.k (.list .st)) (.one (.k (.list (.pair (.i .i64) (.pair (.i .i64) .bo))))))
def Fk (d:List (List UInt8)×List (Int×Int×Bool)):Prop:=d.1≠[]/\d.2.length<=1000/\∀ z∈d.2,0<=z.1/\0<=z.2.1/\∀ s∈d.1,z.2.1<s.length
def PZ (d:List (List UInt8)×List (Int×Int×Bool)):SV:=.val .bo (d.2.all (Q80 d.1))
def PJ (d:List (List UInt8)×List (Int×Int×Bool)):List OB:=[]
def Hl:CSp:=Y9 Ru Fk PZ PJ
def Ng (cl:List (List UInt8)) (ss:List (Int×Int×Bool)):Prop :=
 (ss.length<=1000000/\∀ x∈ss,(λ(x1:Int×Int×Bool)=>cl≠[]/\0<=x1.1/\0<=x1.2.1/\∀ s∈cl,x1.2.1<s.length) x)/\((!(ss.any (λ(x1:Int×Int×Bool)=>(!(Q80 cl (x1.1,(x1.2.1,x1.2.2)))))))=(ss.all (Q80 cl))/\(True))
def Rz:Cx:=⟨[],[(36,Qk),(65,MX)],9,[],0,[],[],[],[],false,[],[],[],[]⟩
def Q08 (cl:List (List UInt8)) (ss:List (Int×Int×Bool)):List (Nat×LoopAnn):=[]
theorem Q07 (d:List (List UInt8)×List (Int×Int×Bool)):gwp (Rz) (Q08 d.1 d.2) c38 0 (Yh [.tmp 4] (PZ d) (PJ d)) (Qo 9 (AL.can Ru d))=Ng d.1 d.2:=by kernel_rfl
abbrev Q0m:Prop:=OkC Tryz.prog 38 Hl
theorem Od (h:∀ (cl:List (List UInt8)) (ss:List (Int×Int×Bool)),(cl≠[]/\ss.length<=1000/\∀ z∈ss,0<=z.1/\0<=z.2.1/\∀ s∈cl,z.2.1<s.length)->Ng cl ss):OkC Tryz.prog 38 Hl :=
 Qu Z99 mixed (C:=Rz) (V:=λ(d:List (List UInt8)×List (Int×Int×Bool))=>Ng d.1 d.2) ⟨(.cons Ze (.cons Ei .nil)),XsOk.nil,ItsOk.nil,YlOk.nil,IysOk.nil,XfOk.nil⟩ (Q07) λd hp=>h d.1 d.2 hp
theorem O7:Q0m:=Od λcl ss h=>by obtain⟨h1,h2,h3⟩:=h;unfold Ng;(try delta lI gD sT I64 Q1 pj8 pj4);refine⟨⟨by omega,λx hx=>⟨h1,h3 x hx⟩⟩,?_,trivial⟩;rw[List.not_any_eq_all_not];simp
def Ps:AL ((Int×Int×Bool)×Int×List Int×Int×List Int):=(.cons (.agg (.cons (.k (.i .i64)) (.cons (.k (.i .i64)) (.one (.k .bo))))) (.one (.ptr (.cons (.k (.i .i64)) (.cons (.k (.list (.i .i64))) (.cons (.k (.i .i64)) (.one (.k (.list (.i .i64))))))))))
def CF (d:(Int×Int×Bool)×Int×List Int×Int×List Int):Prop:=d.2.2.1.length<=110
def Hp (d:(Int×Int×Bool)×Int×List Int×Int×List Int):SV:=.val .bo (!(Q8k d.2.2.1 (d.1.1,(d.1.2.1,d.1.2.2))))
def Hn (d:(Int×Int×Bool)×Int×List Int×Int×List Int):List OB:=[]
def GZ:CSp:=Y9 Ps CF Hp Hn
def Ud (sp:Int) (sw:Int) (su:Bool) (hk:Int) (lw:List Int) (hd:Int) (rows:List Int):Prop :=
 ([sp].length<=1000000)/\((!(!([sp].any λn=>decide (n<(0:Int))||decide ((119:Int)<n))))=false->InK .i64 ((lI lw)-(1:Int)))/\((!(!([sp].any λn=>decide (n<(0:Int))||decide ((119:Int)<n))))=false->True)/\((!(!([sp].any λn=>decide (n<(0:Int))||decide ((119:Int)<n))))=false->[sw].length<=1000000)/\(((!(!([sp].any λn=>decide (n<(0:Int))||decide ((119:Int)<n))))||(!(!([sw].any λn=>decide (n<(0:Int))||decide (((lI lw)-(1:Int))<n)))))=(!(Q8k lw (sp,(sw,su))))/\(True))
def T2:Cx:=⟨[(3,(.i .i64))],[(34,Kl)],21,[],0,[],[],[],[],false,[],[],[],[]⟩
def Fc (sp:Int) (sw:Int) (su:Bool) (hk:Int) (lw:List Int) (hd:Int) (rows:List Int):List (Nat×LoopAnn):=[]
theorem E_ (d:(Int×Int×Bool)×Int×List Int×Int×List Int):gwp (T2) (Fc d.1.1 d.1.2.1 d.1.2.2 d.2.1 d.2.2.1 d.2.2.2.1 d.2.2.2.2) c33 0 (Yh [.tmp 3] (Hp d) (Hn d)) (Qo 21 (AL.can Ps d))=Ud d.1.1 d.1.2.1 d.1.2.2 d.2.1 d.2.2.1 d.2.2.2.1 d.2.2.2.2:=by kernel_rfl
abbrev Ih:Prop:=OkC Tryz.prog 33 GZ
theorem EY (h:∀ (sp:Int) (sw:Int) (su:Bool) (hk:Int) (lw:List Int) (hd:Int) (rows:List Int),(lw.length<=110)->Ud sp sw su hk lw hd rows):OkC Tryz.prog 33 GZ :=
 Qu Z82 mixed (C:=T2) (V:=λ(d:(Int×Int×Bool)×Int×List Int×Int×List Int)=>Ud d.1.1 d.1.2.1 d.1.2.2 d.2.1 d.2.2.1 d.2.2.2.1 d.2.2.2.2) ⟨(.cons Nw .nil),XsOk.nil,ItsOk.nil,YlOk.nil,IysOk.nil,XfOk.nil⟩ (E_) λd hp=>h d.1.1 d.1.2.1 d.1.2.2 d.2.1 d.2.2.1 d.2.2.2.1 d.2.2.2.2 hp
theorem I3:Ih:=EY λsp sw su hk lw hd rows h=>by unfold Ud;(try delta lI gD sT I64 Q1 pj8 pj4);have e:∀ n a b:Int,(decide (n<a)||decide (b<n))=!inI n a b:=λn a b=>(nI n a b).symm;simp only[List.any_cons,List.any_nil,xy,zr,List.length_nil,e,Bool.not_not];refine⟨by omega,λ_=>by rw[Qm];omega,λ_=>trivial,λ_=>by omega,?_,trivial⟩;unfold Q8k;rw[Bool.not_and]
def Yb:AL (List (List UInt8)×List (List UInt8)):=(.cons (.k (.list .st)) (.one (.k (.list .st))))
def Uu (d:List (List UInt8)×List (List UInt8)):Prop:=d.1.length<=1000000
def WU (d:List (List UInt8)×List (List UInt8)):SV:=.val .bo (d.1==d.2)
def WX (d:List (List UInt8)×List (List UInt8)):List OB:=[]
def X6:CSp:=Y9 Yb Uu WU WX
def ZS (a:List (List UInt8)) (b:List (List UInt8)):Prop :=
 (((lI a) != (lI b))=true ->
  (false=(a==b)/\(True))) /\
 (((lI a) != (lI b))=false ->
  ∃ (e2:Unit) (d20:Int),((a=a/\b=b/\(lI a)=(lI a)/\(0:Int)=d20/\True)/\(True)) /\
  LoopP (λ(d2:Int) (q2:(Int)->Prop) =>
   ((decide (d2<(lI a)))=true ->
    (0<=d2)/\(d2<(List.length a))/\(0<=d2)/\(d2<(List.length b))/\((!((gD a d2 [])==(gD b d2 [])))=true ->
     (false=(a==b)/\(True))) /\
    ((!((gD a d2 [])==(gD b d2 [])))=false ->
     (I64 (d2+(1:Int)))/\(∃ d3:Int,((a=a/\b=b/\(lI a)=(lI a)/\(d2+(1:Int))=d3/\True)/\(True))/\q2 d3))) /\
   ((decide (d2<(lI a)))=false ->
    (true=(a==b)/\(True)))) d20)
def Yd:Cx:=⟨[],[],26,[],0,[],[],[],[],false,[],[],[],[]⟩
def UG (a:List (List UInt8)) (b:List (List UInt8)):List (Nat×LoopAnn):=[(0,⟨Unit,Int,[0,1,12,13],λe x=>[.val (.list .st) a,.val (.list .st) b,.val (.i .i64) (((List.length a):Nat):Int),.val (.i .i64) x],λe x=>[]⟩)]
theorem UC (d:List (List UInt8)×List (List UInt8)):gwp (Yd) (UG d.1 d.2) c64 0 (Yh [.tmp 4] (WU d) (WX d)) (Qo 26 (AL.can Yb d))=ZS d.1 d.2:=by kernel_rfl
abbrev UA:Prop:=OkC Tryz.prog 64 X6
theorem Uz (h:∀ (a:List (List UInt8)) (b:List (List UInt8)),(a.length<=1000000)->ZS a b):OkC Tryz.prog 64 X6 :=
 Qu Z7v mixed (C:=Yd) (V:=λ(d:List (List UInt8)×List (List UInt8))=>ZS d.1 d.2) ⟨.nil,XsOk.nil,ItsOk.nil,YlOk.nil,IysOk.nil,XfOk.nil⟩ (UC) λd hp=>h d.1 d.2 hp
theorem UF:UA:=Uz λa b h=>by
 unfold ZS;(try delta lI gD sT I64 Q1 pj8 pj4);refine⟨λhl=>⟨?_,trivial⟩,λhl=>⟨(),0,(by and_intros<;>first|rfl|trivial|simp),?_⟩⟩
 .have hl:a.length≠b.length:=by have:=bne_iff_ne.1 hl;omega
  exact(zW.2 λe=>hl (by rw[e])).symm
 .have hl:a.length=b.length:=by have:=bne_eq_false_iff_eq.1 hl;omega
  refine LoopP.count a.length (λk=>∀ i,i<k->a.getD i []=b.getD i []) (λi hi=>by omega) (λk hk hJ q hq=>?_);simp only[z7];refine⟨λc=>?_,λc=>⟨?_,trivial⟩⟩
  .have c:k<a.length:=by simpa using c
   refine⟨by omega,by omega,by omega,by omega,λaJ=>⟨?_,trivial⟩,λheq=>⟨by rw[Qm];omega,_,(by and_intros<;>first|rfl|trivial|simp),hq c λi hi=>?_⟩⟩
   .have aJ:a.getD k []≠b.getD k []:=by simpa using aJ
    exact(zW.2 λe=>aJ (by rw[e])).symm
   .have heq:a.getD k []=b.getD k []:=by simpa using heq
    rcases Nat.lt_succ_iff_lt_or_eq.1 hi with h1|rfl
    .exact hJ i h1
    .exact heq
  .have c:k=a.length:=by
    have:¬ k<a.length:=by simpa using c
    omega
   have e:a=b:=List.ext_getElem hl λi h1 h2=>by
    have:=hJ i (by omega)
    rwa [Qf h1,Qf h2] at this
   rw[e];simp
def Ln:AL ((Int×List Int×Int×List Int)×List (Int×Int×Bool)):=(.cons (.agg (.cons (.k (.i .i64)) (.cons (.k (.list (.i .i64))) (.cons (.k (.i .i64)) (.one (.k (.list (.i .i64)))))))) (.one (.k (.list (.pair (.i .i64) (.pair (.i .i64) .bo))))))
def Ox (d:(Int×List Int×Int×List Int)×List (Int×Int×Bool)):Prop:=d.1.2.1.length<=110/\d.1.2.2.2.length<=110/\d.2.length<=1000
def Rn (d:(Int×List Int×Int×List Int)×List (Int×Int×Bool)):SV:=.tup [.lst 0,.val .bo (Q6u d.1.1 d.1.2.1 d.1.2.2.1 d.1.2.2.2 d.2),.val (.i .i64) (KA d.1.1 d.1.2.1 d.1.2.2.1 d.1.2.2.2 d.2)]
def Rs (d:(Int×List Int×Int×List Int)×List (Int×Int×Bool)):List OB:=[.lst 43 (.pair (.i .i64) (.pair (.i .i64) (.pair (.i .i64) (.pair (.i .i64) .bo)))) (Lf d.1.1 d.1.2.1 d.1.2.2.1 d.1.2.2.2 d.2) ((Lf d.1.1 d.1.2.1 d.1.2.2.1 d.1.2.2.2 d.2).isEmpty)]
def Ti:CSp:=Y9 Ln Ox Rn Rs
def Mu (hk:Int) (lw:List Int) (hd:Int) (rows:List Int) (ss:List (Int×Int×Bool)):Prop :=
 (lw.length<=110/\rows.length<=110)/\(((Q7 hk lw hd rows) != (0:Int))=true ->
  ((True/\false=(Q6u hk lw hd rows ss)/\(Q7 hk lw hd rows)=KA hk lw hd rows ss/\(([]:List SV)=[]))/\(((Lf hk lw hd rows ss)=[]/\(Lf hk lw hd rows ss).isEmpty=true)/\True))) /\
 (((Q7 hk lw hd rows) != (0:Int))=false ->
  ((decide ((lI ss) > (60:Int)))=true ->
   ((True/\false=(Q6u hk lw hd rows ss)/\(5:Int)=KA hk lw hd rows ss/\(([]:List SV)=[]))/\(((Lf hk lw hd rows ss)=[]/\(Lf hk lw hd rows ss).isEmpty=true)/\True))) /\
  ((decide ((lI ss) > (60:Int)))=false ->
   (ss.length<=1000000/\∀ x∈ss,(λ(x1:Int×Int×Bool)=>lw.length<=110) x)/\((ss.any (λ(x1:Int×Int×Bool)=>(!(Q8k lw (x1.1,(x1.2.1,x1.2.2))))))=true ->
    ((True/\false=(Q6u hk lw hd rows ss)/\(2:Int)=KA hk lw hd rows ss/\(([]:List SV)=[]))/\(((Lf hk lw hd rows ss)=[]/\(Lf hk lw hd rows ss).isEmpty=true)/\True))) /\
   ((ss.any (λ(x1:Int×Int×Bool)=>(!(Q8k lw (x1.1,(x1.2.1,x1.2.2))))))=false ->
    ∀ w1:LpD,(Q7 hk lw hd rows=0/\lw.length<=110/\rows.length<=110)/\∀ w2:LpD,(I64 ((lI rows)*hd))/\∃ (e6:Int×Int×Int×Int×Int×(List Int)×Int×(List Int)×(List (Int×Int×Bool))×LpD×Int×(List Int)×Int×(List Int)×(List (List UInt8))×LpD) (d60:(List (Int×Int×Int×Int×Bool))×Int),((True/\(lI rows)=e6.1/\hd=e6.2.1/\(lI lw)=e6.2.2.1/\True/\((lI rows)*hd)=e6.2.2.2.1/\(0:Int)=d60.2/\True)/\((d60.1=[]/\(List.isEmpty d60.1)=true)/\((pj8 e6).2.1=w1/\(True/\True/\True/\True/\True/\True/\True/\True/\True/\True/\True/\True/\True/\True/\True/\True/\True/\True/\True/\True/\True/\True/\True/\True/\True/\True/\True/\True/\True/\True/\True/\True/\True/\True/\True/\True/\True/\True/\True/\True/\True/\True/\True/\True/\(([]:List SV)=[])))/\(hk=(pj4 e6).1/\lw=(pj4 e6).2.1/\hd=(pj4 e6).2.2.1/\rows=(pj4 e6).2.2.2.1/\(([]:List SV)=[]))/\(ss=(pj8 e6).1/\(([]:List SV)=[]))/\(True/\(([]:List SV)=[]))/\((pj4 (pj8 e6)).2.2.2=w2/\(True/\True/\True/\True/\True/\True/\True/\True/\True/\True/\True/\True/\True/\True/\True/\True/\True/\True/\True/\True/\True/\True/\True/\True/\True/\True/\True/\(([]:List SV)=[])))/\(hk=(pj8 e6).2.2.1/\lw=(pj8 e6).2.2.2.1/\hd=(pj4 (pj8 e6)).1/\rows=(pj4 (pj8 e6)).2.1/\(([]:List SV)=[]))/\(True/\(([]:List SV)=[]))/\(True/\(([]:List SV)=[]))/\((Wy lw hd rows [])=(pj4 (pj8 e6)).2.2.1/\false=false)/\True)) /\
    LoopP (λ(d6:(List (Int×Int×Int×Int×Bool))×Int) (q6:((List (Int×Int×Int×Int×Bool))×Int)->Prop) =>
     ((decide (d6.2<e6.2.2.2.1))=true ->
      (e6.2.1≠0)/\(I64 (Int.tdiv d6.2 e6.2.1))/\(e6.2.1≠0)/\(((List.length d6.1)+(List.length [((1:Int),((Int.tdiv d6.2 e6.2.1),((Int.tmod d6.2 e6.2.1),((0:Int),false))))]))*40<=70368744177664)/\(I64 (d6.2+(1:Int)))/\(∃ d7:(List (Int×Int×Int×Int×Bool))×Int,((True/\e6.1=e6.1/\e6.2.1=e6.2.1/\e6.2.2.1=e6.2.2.1/\True/\e6.2.2.2.1=e6.2.2.2.1/\(d6.2+(1:Int))=d7.2/\True)/\(((d6.1++[((1:Int),((Int.tdiv d6.2 e6.2.1),((Int.tmod d6.2 e6.2.1),((0:Int),false))))])=d7.1/\false=(List.isEmpty d7.1))/\((pj8 e6).2.1=(pj8 e6).2.1/\(True/\True/\True/\True/\True/\True/\True/\True/\True/\True/\True/\True/\True/\True/\True/\True/\True/\True/\True/\True/\True/\True/\True/\True/\True/\True/\True/\True/\True/\True/\True/\True/\True/\True/\True/\True/\True/\True/\True/\True/\True/\True/\True/\True/\(([]:List SV)=[])))/\((pj4 e6).1=(pj4 e6).1/\(pj4 e6).2.1=(pj4 e6).2.1/\(pj4 e6).2.2.1=(pj4 e6).2.2.1/\(pj4 e6).2.2.2.1=(pj4 e6).2.2.2.1/\(([]:List SV)=[]))/\((pj8 e6).1=(pj8 e6).1/\(([]:List SV)=[]))/\(True/\(([]:List SV)=[]))/\((pj4 (pj8 e6)).2.2.2=(pj4 (pj8 e6)).2.2.2/\(True/\True/\True/\True/\True/\True/\True/\True/\True/\True/\True/\True/\True/\True/\True/\True/\True/\True/\True/\True/\True/\True/\True/\True/\True/\True/\True/\(([]:List SV)=[])))/\((pj8 e6).2.2.1=(pj8 e6).2.2.1/\(pj8 e6).2.2.2.1=(pj8 e6).2.2.2.1/\(pj4 (pj8 e6)).1=(pj4 (pj8 e6)).1/\(pj4 (pj8 e6)).2.1=(pj4 (pj8 e6)).2.1/\(([]:List SV)=[]))/\(True/\(([]:List SV)=[]))/\(True/\(([]:List SV)=[]))/\((pj4 (pj8 e6)).2.2.1=(pj4 (pj8 e6)).2.2.1/\false=false)/\True))/\q6 d7)) /\
     ((decide (d6.2<e6.2.2.2.1))=false ->
      ∃ (ae:Int×Int×Int×Int×(List Int)×Int×(List Int)×(List (Int×Int×Bool))×LpD×Int×(List Int)×Int×(List Int)×(List (List UInt8))×LpD) (d100:(List (Int×Int×Int×Int×Bool))×Int),((True/\e6.1=ae.1/\e6.2.2.1=ae.2.1/\True/\e6.2.1=ae.2.2.1/\(0:Int)=d100.2/\True)/\((d6.1=d100.1/\(List.isEmpty d6.1)=(List.isEmpty d100.1))/\((pj8 ae).1=(pj8 e6).2.1/\(True/\True/\True/\True/\True/\True/\True/\True/\True/\True/\True/\True/\True/\True/\True/\True/\True/\True/\True/\True/\True/\True/\True/\True/\True/\True/\True/\True/\True/\True/\True/\True/\True/\True/\True/\True/\True/\True/\True/\True/\True/\True/\True/\True/\(([]:List SV)=[])))/\((pj4 e6).1=ae.2.2.2.1/\(pj4 e6).2.1=(pj4 ae).1/\(pj4 e6).2.2.1=(pj4 ae).2.1/\(pj4 e6).2.2.2.1=(pj4 ae).2.2.1/\(([]:List SV)=[]))/\((pj8 e6).1=(pj4 ae).2.2.2.1/\(([]:List SV)=[]))/\(True/\(([]:List SV)=[]))/\((pj4 (pj8 ae)).2.2=(pj4 (pj8 e6)).2.2.2/\(True/\True/\True/\True/\True/\True/\True/\True/\True/\True/\True/\True/\True/\True/\True/\True/\True/\True/\True/\True/\True/\True/\True/\True/\True/\True/\True/\(([]:List SV)=[])))/\((pj8 e6).2.2.1=(pj8 ae).2.1/\(pj8 e6).2.2.2.1=(pj8 ae).2.2.1/\(pj4 (pj8 e6)).1=(pj8 ae).2.2.2.1/\(pj4 (pj8 e6)).2.1=(pj4 (pj8 ae)).1/\(([]:List SV)=[]))/\(True/\(([]:List SV)=[]))/\(True/\(([]:List SV)=[]))/\((pj4 (pj8 e6)).2.2.1=(pj4 (pj8 ae)).2.1/\false=false)/\True)) /\
      LoopP (λ(d10:(List (Int×Int×Int×Int×Bool))×Int) (iX:((List (Int×Int×Int×Int×Bool))×Int)->Prop) =>
       ((decide (d10.2<ae.2.2.1))=true ->
        (((List.length d10.1)+(List.length [((2:Int),((0:Int),(d10.2,((0:Int),false)))),((2:Int),((0:Int),(d10.2,((0:Int),true))))]))*40<=70368744177664)/\(I64 (d10.2+(1:Int)))/\(∃ d11:(List (Int×Int×Int×Int×Bool))×Int,((True/\ae.1=ae.1/\ae.2.1=ae.2.1/\True/\ae.2.2.1=ae.2.2.1/\(d10.2+(1:Int))=d11.2/\True)/\(((d10.1++[((2:Int),((0:Int),(d10.2,((0:Int),false)))),((2:Int),((0:Int),(d10.2,((0:Int),true))))])=d11.1/\false=(List.isEmpty d11.1))/\((pj8 ae).1=(pj8 ae).1/\(True/\True/\True/\True/\True/\True/\True/\True/\True/\True/\True/\True/\True/\True/\True/\True/\True/\True/\True/\True/\True/\True/\True/\True/\True/\True/\True/\True/\True/\True/\True/\True/\True/\True/\True/\True/\True/\True/\True/\True/\True/\True/\True/\True/\(([]:List SV)=[])))/\(ae.2.2.2.1=ae.2.2.2.1/\(pj4 ae).1=(pj4 ae).1/\(pj4 ae).2.1=(pj4 ae).2.1/\(pj4 ae).2.2.1=(pj4 ae).2.2.1/\(([]:List SV)=[]))/\((pj4 ae).2.2.2.1=(pj4 ae).2.2.2.1/\(([]:List SV)=[]))/\(True/\(([]:List SV)=[]))/\((pj4 (pj8 ae)).2.2=(pj4 (pj8 ae)).2.2/\(True/\True/\True/\True/\True/\True/\True/\True/\True/\True/\True/\True/\True/\True/\True/\True/\True/\True/\True/\True/\True/\True/\True/\True/\True/\True/\True/\(([]:List SV)=[])))/\((pj8 ae).2.1=(pj8 ae).2.1/\(pj8 ae).2.2.1=(pj8 ae).2.2.1/\(pj8 ae).2.2.2.1=(pj8 ae).2.2.2.1/\(pj4 (pj8 ae)).1=(pj4 (pj8 ae)).1/\(([]:List SV)=[]))/\(True/\(([]:List SV)=[]))/\(True/\(([]:List SV)=[]))/\((pj4 (pj8 ae)).2.1=(pj4 (pj8 ae)).2.1/\false=false)/\True))/\iX d11)) /\
       ((decide (d10.2<ae.2.2.1))=false ->
        ∃ (aL:Int×Int×Int×Int×Int×(List Int)×Int×(List Int)×(List (Int×Int×Bool))×LpD×Int×(List Int)×Int×(List Int)×(List (List UInt8))×LpD) (d140:(List (Int×Int×Int×Int×Bool))×Int),((True/\ae.1=aL.1/\ae.2.1=aL.2.1/\True/\((3:Int)=aL.2.2.1/\(4:Int)=aL.2.2.2.1/\(([]:List SV)=[]))/\(0:Int)=d140.2/\True)/\((d10.1=d140.1/\(List.isEmpty d10.1)=(List.isEmpty d140.1))/\((pj8 aL).2.1=(pj8 ae).1/\(True/\True/\True/\True/\True/\True/\True/\True/\True/\True/\True/\True/\True/\True/\True/\True/\True/\True/\True/\True/\True/\True/\True/\True/\True/\True/\True/\True/\True/\True/\True/\True/\True/\True/\True/\True/\True/\True/\True/\True/\True/\True/\True/\True/\(([]:List SV)=[])))/\(ae.2.2.2.1=(pj4 aL).1/\(pj4 ae).1=(pj4 aL).2.1/\(pj4 ae).2.1=(pj4 aL).2.2.1/\(pj4 ae).2.2.1=(pj4 aL).2.2.2.1/\(([]:List SV)=[]))/\((pj4 ae).2.2.2.1=(pj8 aL).1/\(([]:List SV)=[]))/\(True/\(([]:List SV)=[]))/\((pj4 (pj8 aL)).2.2.2=(pj4 (pj8 ae)).2.2/\(True/\True/\True/\True/\True/\True/\True/\True/\True/\True/\True/\True/\True/\True/\True/\True/\True/\True/\True/\True/\True/\True/\True/\True/\True/\True/\True/\(([]:List SV)=[])))/\((pj8 ae).2.1=(pj8 aL).2.2.1/\(pj8 ae).2.2.1=(pj8 aL).2.2.2.1/\(pj8 ae).2.2.2.1=(pj4 (pj8 aL)).1/\(pj4 (pj8 ae)).1=(pj4 (pj8 aL)).2.1/\(([]:List SV)=[]))/\(True/\(([]:List SV)=[]))/\(True/\(([]:List SV)=[]))/\((pj4 (pj8 ae)).2.1=(pj4 (pj8 aL)).2.2.1/\false=false)/\True)) /\
        LoopP (λ(d14:(List (Int×Int×Int×Int×Bool))×Int) (sU:((List (Int×Int×Int×Int×Bool))×Int)->Prop) =>
         ((decide (d14.2<(2:Int)))=true ->
          (0<=d14.2)/\(d14.2<(2:Int)) /\
          (d14.2=(0:Int) ->
           ∃ (af:Int×Int×Int×Int×Int×Int×Int×Int×(List Int)×Int×(List Int)×(List (Int×Int×Bool))×LpD×Int×(List Int)×Int×(List Int)×(List (List UInt8))×LpD) (cj:(List (Int×Int×Int×Int×Bool))×Int),((True/\aL.1=af.1/\aL.2.1=af.2.1/\True/\aL.2.2.1=af.2.2.1/\(aL.2.2.1=af.2.2.2.1/\aL.2.2.2.1=(pj4 af).1/\(([]:List SV)=[]))/\d14.2=(pj4 af).2.1/\aL.1=(pj4 af).2.2.1/\(0:Int)=cj.2/\True)/\((d14.1=cj.1/\(List.isEmpty d14.1)=(List.isEmpty cj.1))/\((pj4 (pj8 af)).1=(pj8 aL).2.1/\(True/\True/\True/\True/\True/\True/\True/\True/\True/\True/\True/\True/\True/\True/\True/\True/\True/\True/\True/\True/\True/\True/\True/\True/\True/\True/\True/\True/\True/\True/\True/\True/\True/\True/\True/\True/\True/\True/\True/\True/\True/\True/\True/\True/\(([]:List SV)=[])))/\((pj4 aL).1=(pj4 af).2.2.2.1/\(pj4 aL).2.1=(pj8 af).1/\(pj4 aL).2.2.1=(pj8 af).2.1/\(pj4 aL).2.2.2.1=(pj8 af).2.2.1/\(([]:List SV)=[]))/\((pj8 aL).1=(pj8 af).2.2.2.1/\(([]:List SV)=[]))/\(True/\(([]:List SV)=[]))/\((Q1 af).2.2=(pj4 (pj8 aL)).2.2.2/\(True/\True/\True/\True/\True/\True/\True/\True/\True/\True/\True/\True/\True/\True/\True/\True/\True/\True/\True/\True/\True/\True/\True/\True/\True/\True/\True/\(([]:List SV)=[])))/\((pj8 aL).2.2.1=(pj4 (pj8 af)).2.1/\(pj8 aL).2.2.2.1=(pj4 (pj8 af)).2.2.1/\(pj4 (pj8 aL)).1=(pj4 (pj8 af)).2.2.2.1/\(pj4 (pj8 aL)).2.1=(Q1 af).1/\(([]:List SV)=[]))/\(True/\(([]:List SV)=[]))/\(True/\(([]:List SV)=[]))/\((pj4 (pj8 aL)).2.2.1=(Q1 af).2.1/\false=false)/\True)) /\
           LoopP (λ(d17:(List (Int×Int×Int×Int×Bool))×Int) (lG:((List (Int×Int×Int×Int×Bool))×Int)->Prop) =>
            ((decide (d17.2<(pj4 af).2.2.1))=true ->
             (((List.length d17.1)+(List.length [(af.2.2.1,(d17.2,((0:Int),((0:Int),false))))]))*40<=70368744177664)/\(I64 (d17.2+(1:Int)))/\(∃ d18:(List (Int×Int×Int×Int×Bool))×Int,((True/\af.1=af.1/\af.2.1=af.2.1/\True/\af.2.2.1=af.2.2.1/\(af.2.2.2.1=af.2.2.2.1/\(pj4 af).1=(pj4 af).1/\(([]:List SV)=[]))/\(pj4 af).2.1=(pj4 af).2.1/\(pj4 af).2.2.1=(pj4 af).2.2.1/\(d17.2+(1:Int))=d18.2/\True)/\(((d17.1++[(af.2.2.1,(d17.2,((0:Int),((0:Int),false))))])=d18.1/\false=(List.isEmpty d18.1))/\((pj4 (pj8 af)).1=(pj4 (pj8 af)).1/\(True/\True/\True/\True/\True/\True/\True/\True/\True/\True/\True/\True/\True/\True/\True/\True/\True/\True/\True/\True/\True/\True/\True/\True/\True/\True/\True/\True/\True/\True/\True/\True/\True/\True/\True/\True/\True/\True/\True/\True/\True/\True/\True/\True/\(([]:List SV)=[])))/\((pj4 af).2.2.2.1=(pj4 af).2.2.2.1/\(pj8 af).1=(pj8 af).1/\(pj8 af).2.1=(pj8 af).2.1/\(pj8 af).2.2.1=(pj8 af).2.2.1/\(([]:List SV)=[]))/\((pj8 af).2.2.2.1=(pj8 af).2.2.2.1/\(([]:List SV)=[]))/\(True/\(([]:List SV)=[]))/\((Q1 af).2.2=(Q1 af).2.2/\(True/\True/\True/\True/\True/\True/\True/\True/\True/\True/\True/\True/\True/\True/\True/\True/\True/\True/\True/\True/\True/\True/\True/\True/\True/\True/\True/\(([]:List SV)=[])))/\((pj4 (pj8 af)).2.1=(pj4 (pj8 af)).2.1/\(pj4 (pj8 af)).2.2.1=(pj4 (pj8 af)).2.2.1/\(pj4 (pj8 af)).2.2.2.1=(pj4 (pj8 af)).2.2.2.1/\(Q1 af).1=(Q1 af).1/\(([]:List SV)=[]))/\(True/\(([]:List SV)=[]))/\(True/\(([]:List SV)=[]))/\((Q1 af).2.1=(Q1 af).2.1/\false=false)/\True))/\lG d18)) /\
            ((decide (d17.2<(pj4 af).2.2.1))=false ->
             (I64 ((pj4 af).2.1+(1:Int)))/\(∃ d19:(List (Int×Int×Int×Int×Bool))×Int,((True/\af.1=aL.1/\af.2.1=aL.2.1/\True/\(af.2.2.2.1=aL.2.2.1/\(pj4 af).1=aL.2.2.2.1/\(([]:List SV)=[]))/\((pj4 af).2.1+(1:Int))=d19.2/\True)/\((d17.1=d19.1/\(List.isEmpty d17.1)=(List.isEmpty d19.1))/\((pj8 aL).2.1=(pj4 (pj8 af)).1/\(True/\True/\True/\True/\True/\True/\True/\True/\True/\True/\True/\True/\True/\True/\True/\True/\True/\True/\True/\True/\True/\True/\True/\True/\True/\True/\True/\True/\True/\True/\True/\True/\True/\True/\True/\True/\True/\True/\True/\True/\True/\True/\True/\True/\(([]:List SV)=[])))/\((pj4 af).2.2.2.1=(pj4 aL).1/\(pj8 af).1=(pj4 aL).2.1/\(pj8 af).2.1=(pj4 aL).2.2.1/\(pj8 af).2.2.1=(pj4 aL).2.2.2.1/\(([]:List SV)=[]))/\((pj8 af).2.2.2.1=(pj8 aL).1/\(([]:List SV)=[]))/\(True/\(([]:List SV)=[]))/\((pj4 (pj8 aL)).2.2.2=(Q1 af).2.2/\(True/\True/\True/\True/\True/\True/\True/\True/\True/\True/\True/\True/\True/\True/\True/\True/\True/\True/\True/\True/\True/\True/\True/\True/\True/\True/\True/\(([]:List SV)=[])))/\((pj4 (pj8 af)).2.1=(pj8 aL).2.2.1/\(pj4 (pj8 af)).2.2.1=(pj8 aL).2.2.2.1/\(pj4 (pj8 af)).2.2.2.1=(pj4 (pj8 aL)).1/\(Q1 af).1=(pj4 (pj8 aL)).2.1/\(([]:List SV)=[]))/\(True/\(([]:List SV)=[]))/\(True/\(([]:List SV)=[]))/\((Q1 af).2.1=(pj4 (pj8 aL)).2.2.1/\false=false)/\True))/\sU d19))) cj) /\
          (d14.2=(1:Int) ->
           ∃ (aO:Int×Int×Int×Int×Int×Int×Int×Int×(List Int)×Int×(List Int)×(List (Int×Int×Bool))×LpD×Int×(List Int)×Int×(List Int)×(List (List UInt8))×LpD) (eU:(List (Int×Int×Int×Int×Bool))×Int),((True/\aL.1=aO.1/\aL.2.1=aO.2.1/\True/\aL.2.2.2.1=aO.2.2.1/\(aL.2.2.1=aO.2.2.2.1/\aL.2.2.2.1=(pj4 aO).1/\(([]:List SV)=[]))/\d14.2=(pj4 aO).2.1/\aL.1=(pj4 aO).2.2.1/\(0:Int)=eU.2/\True)/\((d14.1=eU.1/\(List.isEmpty d14.1)=(List.isEmpty eU.1))/\((pj4 (pj8 aO)).1=(pj8 aL).2.1/\(True/\True/\True/\True/\True/\True/\True/\True/\True/\True/\True/\True/\True/\True/\True/\True/\True/\True/\True/\True/\True/\True/\True/\True/\True/\True/\True/\True/\True/\True/\True/\True/\True/\True/\True/\True/\True/\True/\True/\True/\True/\True/\True/\True/\(([]:List SV)=[])))/\((pj4 aL).1=(pj4 aO).2.2.2.1/\(pj4 aL).2.1=(pj8 aO).1/\(pj4 aL).2.2.1=(pj8 aO).2.1/\(pj4 aL).2.2.2.1=(pj8 aO).2.2.1/\(([]:List SV)=[]))/\((pj8 aL).1=(pj8 aO).2.2.2.1/\(([]:List SV)=[]))/\(True/\(([]:List SV)=[]))/\((Q1 aO).2.2=(pj4 (pj8 aL)).2.2.2/\(True/\True/\True/\True/\True/\True/\True/\True/\True/\True/\True/\True/\True/\True/\True/\True/\True/\True/\True/\True/\True/\True/\True/\True/\True/\True/\True/\(([]:List SV)=[])))/\((pj8 aL).2.2.1=(pj4 (pj8 aO)).2.1/\(pj8 aL).2.2.2.1=(pj4 (pj8 aO)).2.2.1/\(pj4 (pj8 aL)).1=(pj4 (pj8 aO)).2.2.2.1/\(pj4 (pj8 aL)).2.1=(Q1 aO).1/\(([]:List SV)=[]))/\(True/\(([]:List SV)=[]))/\(True/\(([]:List SV)=[]))/\((pj4 (pj8 aL)).2.2.1=(Q1 aO).2.1/\false=false)/\True)) /\
           LoopP (λ(d22:(List (Int×Int×Int×Int×Bool))×Int) (rB:((List (Int×Int×Int×Int×Bool))×Int)->Prop) =>
            ((decide (d22.2<(pj4 aO).2.2.1))=true ->
             (((List.length d22.1)+(List.length [(aO.2.2.1,(d22.2,((0:Int),((0:Int),false))))]))*40<=70368744177664)/\(I64 (d22.2+(1:Int)))/\(∃ d23:(List (Int×Int×Int×Int×Bool))×Int,((True/\aO.1=aO.1/\aO.2.1=aO.2.1/\True/\aO.2.2.1=aO.2.2.1/\(aO.2.2.2.1=aO.2.2.2.1/\(pj4 aO).1=(pj4 aO).1/\(([]:List SV)=[]))/\(pj4 aO).2.1=(pj4 aO).2.1/\(pj4 aO).2.2.1=(pj4 aO).2.2.1/\(d22.2+(1:Int))=d23.2/\True)/\(((d22.1++[(aO.2.2.1,(d22.2,((0:Int),((0:Int),false))))])=d23.1/\false=(List.isEmpty d23.1))/\((pj4 (pj8 aO)).1=(pj4 (pj8 aO)).1/\(True/\True/\True/\True/\True/\True/\True/\True/\True/\True/\True/\True/\True/\True/\True/\True/\True/\True/\True/\True/\True/\True/\True/\True/\True/\True/\True/\True/\True/\True/\True/\True/\True/\True/\True/\True/\True/\True/\True/\True/\True/\True/\True/\True/\(([]:List SV)=[])))/\((pj4 aO).2.2.2.1=(pj4 aO).2.2.2.1/\(pj8 aO).1=(pj8 aO).1/\(pj8 aO).2.1=(pj8 aO).2.1/\(pj8 aO).2.2.1=(pj8 aO).2.2.1/\(([]:List SV)=[]))/\((pj8 aO).2.2.2.1=(pj8 aO).2.2.2.1/\(([]:List SV)=[]))/\(True/\(([]:List SV)=[]))/\((Q1 aO).2.2=(Q1 aO).2.2/\(True/\True/\True/\True/\True/\True/\True/\True/\True/\True/\True/\True/\True/\True/\True/\True/\True/\True/\True/\True/\True/\True/\True/\True/\True/\True/\True/\(([]:List SV)=[])))/\((pj4 (pj8 aO)).2.1=(pj4 (pj8 aO)).2.1/\(pj4 (pj8 aO)).2.2.1=(pj4 (pj8 aO)).2.2.1/\(pj4 (pj8 aO)).2.2.2.1=(pj4 (pj8 aO)).2.2.2.1/\(Q1 aO).1=(Q1 aO).1/\(([]:List SV)=[]))/\(True/\(([]:List SV)=[]))/\(True/\(([]:List SV)=[]))/\((Q1 aO).2.1=(Q1 aO).2.1/\false=false)/\True))/\rB d23)) /\
            ((decide (d22.2<(pj4 aO).2.2.1))=false ->
             (I64 ((pj4 aO).2.1+(1:Int)))/\(∃ d24:(List (Int×Int×Int×Int×Bool))×Int,((True/\aO.1=aL.1/\aO.2.1=aL.2.1/\True/\(aO.2.2.2.1=aL.2.2.1/\(pj4 aO).1=aL.2.2.2.1/\(([]:List SV)=[]))/\((pj4 aO).2.1+(1:Int))=d24.2/\True)/\((d22.1=d24.1/\(List.isEmpty d22.1)=(List.isEmpty d24.1))/\((pj8 aL).2.1=(pj4 (pj8 aO)).1/\(True/\True/\True/\True/\True/\True/\True/\True/\True/\True/\True/\True/\True/\True/\True/\True/\True/\True/\True/\True/\True/\True/\True/\True/\True/\True/\True/\True/\True/\True/\True/\True/\True/\True/\True/\True/\True/\True/\True/\True/\True/\True/\True/\True/\(([]:List SV)=[])))/\((pj4 aO).2.2.2.1=(pj4 aL).1/\(pj8 aO).1=(pj4 aL).2.1/\(pj8 aO).2.1=(pj4 aL).2.2.1/\(pj8 aO).2.2.1=(pj4 aL).2.2.2.1/\(([]:List SV)=[]))/\((pj8 aO).2.2.2.1=(pj8 aL).1/\(([]:List SV)=[]))/\(True/\(([]:List SV)=[]))/\((pj4 (pj8 aL)).2.2.2=(Q1 aO).2.2/\(True/\True/\True/\True/\True/\True/\True/\True/\True/\True/\True/\True/\True/\True/\True/\True/\True/\True/\True/\True/\True/\True/\True/\True/\True/\True/\True/\(([]:List SV)=[])))/\((pj4 (pj8 aO)).2.1=(pj8 aL).2.2.1/\(pj4 (pj8 aO)).2.2.1=(pj8 aL).2.2.2.1/\(pj4 (pj8 aO)).2.2.2.1=(pj4 (pj8 aL)).1/\(Q1 aO).1=(pj4 (pj8 aL)).2.1/\(([]:List SV)=[]))/\(True/\(([]:List SV)=[]))/\(True/\(([]:List SV)=[]))/\((Q1 aO).2.1=(pj4 (pj8 aL)).2.2.1/\false=false)/\True))/\sU d24))) eU) /\
          True) /\
         ((decide (d14.2<(2:Int)))=false ->
          ∃ (bm:Int×Int×(List Int)×Int×(List Int)×(List (Int×Int×Bool))×LpD×Int×(List Int)×Int×(List Int)×(List (List UInt8))×LpD) (jz:(List (Int×Int×Int×Int×Bool))×Int),((True/\True/\aL.2.1=bm.1/\(0:Int)=jz.2/\True)/\((d14.1=jz.1/\(List.isEmpty d14.1)=(List.isEmpty jz.1))/\((pj4 bm).2.2.1=(pj8 aL).2.1/\(True/\True/\True/\True/\True/\True/\True/\True/\True/\True/\True/\True/\True/\True/\True/\True/\True/\True/\True/\True/\True/\True/\True/\True/\True/\True/\True/\True/\True/\True/\True/\True/\True/\True/\True/\True/\True/\True/\True/\True/\True/\True/\True/\True/\(([]:List SV)=[])))/\((pj4 aL).1=bm.2.1/\(pj4 aL).2.1=bm.2.2.1/\(pj4 aL).2.2.1=bm.2.2.2.1/\(pj4 aL).2.2.2.1=(pj4 bm).1/\(([]:List SV)=[]))/\((pj8 aL).1=(pj4 bm).2.1/\(([]:List SV)=[]))/\(True/\(([]:List SV)=[]))/\((pj4 (pj8 bm))=(pj4 (pj8 aL)).2.2.2/\(True/\True/\True/\True/\True/\True/\True/\True/\True/\True/\True/\True/\True/\True/\True/\True/\True/\True/\True/\True/\True/\True/\True/\True/\True/\True/\True/\(([]:List SV)=[])))/\((pj8 aL).2.2.1=(pj4 bm).2.2.2.1/\(pj8 aL).2.2.2.1=(pj8 bm).1/\(pj4 (pj8 aL)).1=(pj8 bm).2.1/\(pj4 (pj8 aL)).2.1=(pj8 bm).2.2.1/\(([]:List SV)=[]))/\(True/\(([]:List SV)=[]))/\(True/\(([]:List SV)=[]))/\((pj4 (pj8 aL)).2.2.1=(pj8 bm).2.2.2.1/\false=false)/\True)) /\
          LoopP (λ(d27:(List (Int×Int×Int×Int×Bool))×Int) (vn:((List (Int×Int×Int×Int×Bool))×Int)->Prop) =>
           ((decide (d27.2<bm.1))=true ->
            (((List.length d27.1)+(List.length [((5:Int),((0:Int),((0:Int),(d27.2,false))))]))*40<=70368744177664)/\(I64 (d27.2+(1:Int)))/\(∃ d28:(List (Int×Int×Int×Int×Bool))×Int,((True/\True/\bm.1=bm.1/\(d27.2+(1:Int))=d28.2/\True)/\(((d27.1++[((5:Int),((0:Int),((0:Int),(d27.2,false))))])=d28.1/\false=(List.isEmpty d28.1))/\((pj4 bm).2.2.1=(pj4 bm).2.2.1/\(True/\True/\True/\True/\True/\True/\True/\True/\True/\True/\True/\True/\True/\True/\True/\True/\True/\True/\True/\True/\True/\True/\True/\True/\True/\True/\True/\True/\True/\True/\True/\True/\True/\True/\True/\True/\True/\True/\True/\True/\True/\True/\True/\True/\(([]:List SV)=[])))/\(bm.2.1=bm.2.1/\bm.2.2.1=bm.2.2.1/\bm.2.2.2.1=bm.2.2.2.1/\(pj4 bm).1=(pj4 bm).1/\(([]:List SV)=[]))/\((pj4 bm).2.1=(pj4 bm).2.1/\(([]:List SV)=[]))/\(True/\(([]:List SV)=[]))/\((pj4 (pj8 bm))=(pj4 (pj8 bm))/\(True/\True/\True/\True/\True/\True/\True/\True/\True/\True/\True/\True/\True/\True/\True/\True/\True/\True/\True/\True/\True/\True/\True/\True/\True/\True/\True/\(([]:List SV)=[])))/\((pj4 bm).2.2.2.1=(pj4 bm).2.2.2.1/\(pj8 bm).1=(pj8 bm).1/\(pj8 bm).2.1=(pj8 bm).2.1/\(pj8 bm).2.2.1=(pj8 bm).2.2.1/\(([]:List SV)=[]))/\(True/\(([]:List SV)=[]))/\(True/\(([]:List SV)=[]))/\((pj8 bm).2.2.2.1=(pj8 bm).2.2.2.1/\false=false)/\True))/\vn d28)) /\
           ((decide (d27.2<bm.1))=false ->
            ∃ (ai:(List (Int×Int×Int×Int×Bool))×Int×Int×(List Int)×Int×(List Int)×(List (Int×Int×Bool))×LpD×Int×(List Int)×Int×(List Int)×(List (List UInt8))×LpD) (jA:Int×(List (Int×Int×Int×Int×Bool))),((True/\True/\(lI d27.1)=ai.2.1/\(0:Int)=jA.1/\True)/\((d27.1=ai.1/\(List.isEmpty d27.1)=(List.isEmpty ai.1))/\((pj4 ai).2.2.2.1=(pj4 bm).2.2.1/\(True/\True/\True/\True/\True/\True/\True/\True/\True/\True/\True/\True/\True/\True/\True/\True/\True/\True/\True/\True/\True/\True/\True/\True/\True/\True/\True/\True/\True/\True/\True/\True/\True/\True/\True/\True/\True/\True/\True/\True/\True/\True/\True/\True/\(([]:List SV)=[])))/\(bm.2.1=ai.2.2.1/\bm.2.2.1=ai.2.2.2.1/\bm.2.2.2.1=(pj4 ai).1/\(pj4 bm).1=(pj4 ai).2.1/\(([]:List SV)=[]))/\((pj4 bm).2.1=(pj4 ai).2.2.1/\(([]:List SV)=[]))/\(True/\(([]:List SV)=[]))/\(jA.2=[]/\(List.isEmpty jA.2)=true)/\((pj4 (pj8 ai)).2=(pj4 (pj8 bm))/\(True/\True/\True/\True/\True/\True/\True/\True/\True/\True/\True/\True/\True/\True/\True/\True/\True/\True/\True/\True/\True/\True/\True/\True/\True/\True/\True/\(([]:List SV)=[])))/\((pj4 bm).2.2.2.1=(pj8 ai).1/\(pj8 bm).1=(pj8 ai).2.1/\(pj8 bm).2.1=(pj8 ai).2.2.1/\(pj8 bm).2.2.1=(pj8 ai).2.2.2.1/\(([]:List SV)=[]))/\(True/\(([]:List SV)=[]))/\(True/\(([]:List SV)=[]))/\((pj8 bm).2.2.2.1=(pj4 (pj8 ai)).1/\false=false)/\True)) /\
            LoopP (λ(d32:Int×(List (Int×Int×Int×Int×Bool))) (rC:(Int×(List (Int×Int×Int×Int×Bool)))->Prop) =>
             ((decide (d32.1<ai.2.1))=true ->
              (0<=d32.1)/\(d32.1<(List.length ai.1))/\(pj4 (pj8 ai)).2=w2/\∀ lJ:List Value,(Q7 (pj8 ai).1 (pj8 ai).2.1 (pj8 ai).2.2.1 (pj8 ai).2.2.2.1=0/\(pj8 ai).2.1.length<=110/\(pj8 ai).2.2.2.1.length<=110/\[((gD ai.1 d32.1 (0,(0,(0,(0,false))))).1,((gD ai.1 d32.1 (0,(0,(0,(0,false))))).2.1,((gD ai.1 d32.1 (0,(0,(0,(0,false))))).2.2.1,((gD ai.1 d32.1 (0,(0,(0,(0,false))))).2.2.2.1,(gD ai.1 d32.1 (0,(0,(0,(0,false))))).2.2.2.2))))].length=1/\∀ z∈[((gD ai.1 d32.1 (0,(0,(0,(0,false))))).1,((gD ai.1 d32.1 (0,(0,(0,(0,false))))).2.1,((gD ai.1 d32.1 (0,(0,(0,(0,false))))).2.2.1,((gD ai.1 d32.1 (0,(0,(0,(0,false))))).2.2.2.1,(gD ai.1 d32.1 (0,(0,(0,(0,false))))).2.2.2.2))))],P3 (pj8 ai).2.2.1 (pj8 ai).2.2.2.1 (pj8 ai).2.1 z=true)/\((Wy (pj8 ai).2.1 (pj8 ai).2.2.1 (pj8 ai).2.2.2.1 [((gD ai.1 d32.1 (0,(0,(0,(0,false))))).1,((gD ai.1 d32.1 (0,(0,(0,(0,false))))).2.1,((gD ai.1 d32.1 (0,(0,(0,(0,false))))).2.2.1,((gD ai.1 d32.1 (0,(0,(0,(0,false))))).2.2.2.1,(gD ai.1 d32.1 (0,(0,(0,(0,false))))).2.2.2.2))))]).length<=1000000)/\(((!((Wy (pj8 ai).2.1 (pj8 ai).2.2.1 (pj8 ai).2.2.2.1 [((gD ai.1 d32.1 (0,(0,(0,(0,false))))).1,((gD ai.1 d32.1 (0,(0,(0,(0,false))))).2.1,((gD ai.1 d32.1 (0,(0,(0,(0,false))))).2.2.1,((gD ai.1 d32.1 (0,(0,(0,(0,false))))).2.2.2.1,(gD ai.1 d32.1 (0,(0,(0,(0,false))))).2.2.2.2))))])==(pj4 (pj8 ai)).1))=true ->
               (pj4 ai).2.2.2.1=w1/\∀ oK:List Value,((Wy (pj8 ai).2.1 (pj8 ai).2.2.1 (pj8 ai).2.2.2.1 [((gD ai.1 d32.1 (0,(0,(0,(0,false))))).1,((gD ai.1 d32.1 (0,(0,(0,(0,false))))).2.1,((gD ai.1 d32.1 (0,(0,(0,(0,false))))).2.2.1,((gD ai.1 d32.1 (0,(0,(0,(0,false))))).2.2.2.1,(gD ai.1 d32.1 (0,(0,(0,(0,false))))).2.2.2.2))))])≠[]/\(pj4 ai).2.2.1.length<=1000/\∀ z∈(pj4 ai).2.2.1,0<=z.1/\0<=z.2.1/\∀ s∈(Wy (pj8 ai).2.1 (pj8 ai).2.2.1 (pj8 ai).2.2.2.1 [((gD ai.1 d32.1 (0,(0,(0,(0,false))))).1,((gD ai.1 d32.1 (0,(0,(0,(0,false))))).2.1,((gD ai.1 d32.1 (0,(0,(0,(0,false))))).2.2.1,((gD ai.1 d32.1 (0,(0,(0,(0,false))))).2.2.2.1,(gD ai.1 d32.1 (0,(0,(0,(0,false))))).2.2.2.2))))]),z.2.1<s.length)/\(((pj4 ai).2.2.1.all (Q80 (Wy (pj8 ai).2.1 (pj8 ai).2.2.1 (pj8 ai).2.2.2.1 [((gD ai.1 d32.1 (0,(0,(0,(0,false))))).1,((gD ai.1 d32.1 (0,(0,(0,(0,false))))).2.1,((gD ai.1 d32.1 (0,(0,(0,(0,false))))).2.2.1,((gD ai.1 d32.1 (0,(0,(0,(0,false))))).2.2.2.1,(gD ai.1 d32.1 (0,(0,(0,(0,false))))).2.2.2.2))))])))=true ->
                (((List.length d32.2)+(List.length [((gD ai.1 d32.1 (0,(0,(0,(0,false))))).1,((gD ai.1 d32.1 (0,(0,(0,(0,false))))).2.1,((gD ai.1 d32.1 (0,(0,(0,(0,false))))).2.2.1,((gD ai.1 d32.1 (0,(0,(0,(0,false))))).2.2.2.1,(gD ai.1 d32.1 (0,(0,(0,(0,false))))).2.2.2.2))))]))*40<=70368744177664)/\oK=oK/\(pj4 ai).2.2.2.1=w1/\lJ=lJ/\(pj4 (pj8 ai)).2=w2/\(I64 (d32.1+(1:Int)))/\(∃ d35:Int×(List (Int×Int×Int×Int×Bool)),((True/\True/\ai.2.1=ai.2.1/\(d32.1+(1:Int))=d35.1/\True)/\((ai.1=ai.1/\(List.isEmpty ai.1)=(List.isEmpty ai.1))/\((pj4 ai).2.2.2.1=(pj4 ai).2.2.2.1/\(True/\True/\True/\True/\True/\True/\True/\True/\True/\True/\True/\True/\True/\True/\True/\True/\True/\True/\True/\True/\True/\True/\True/\True/\True/\True/\True/\True/\True/\True/\True/\True/\True/\True/\True/\True/\True/\True/\True/\True/\True/\True/\True/\True/\(([]:List SV)=[])))/\(ai.2.2.1=ai.2.2.1/\ai.2.2.2.1=ai.2.2.2.1/\(pj4 ai).1=(pj4 ai).1/\(pj4 ai).2.1=(pj4 ai).2.1/\(([]:List SV)=[]))/\((pj4 ai).2.2.1=(pj4 ai).2.2.1/\(([]:List SV)=[]))/\(True/\(([]:List SV)=[]))/\((d32.2++[((gD ai.1 d32.1 (0,(0,(0,(0,false))))).1,((gD ai.1 d32.1 (0,(0,(0,(0,false))))).2.1,((gD ai.1 d32.1 (0,(0,(0,(0,false))))).2.2.1,((gD ai.1 d32.1 (0,(0,(0,(0,false))))).2.2.2.1,(gD ai.1 d32.1 (0,(0,(0,(0,false))))).2.2.2.2))))])=d35.2/\false=(List.isEmpty d35.2))/\((pj4 (pj8 ai)).2=(pj4 (pj8 ai)).2/\(True/\True/\True/\True/\True/\True/\True/\True/\True/\True/\True/\True/\True/\True/\True/\True/\True/\True/\True/\True/\True/\True/\True/\True/\True/\True/\True/\(([]:List SV)=[])))/\((pj8 ai).1=(pj8 ai).1/\(pj8 ai).2.1=(pj8 ai).2.1/\(pj8 ai).2.2.1=(pj8 ai).2.2.1/\(pj8 ai).2.2.2.1=(pj8 ai).2.2.2.1/\(([]:List SV)=[]))/\(True/\(([]:List SV)=[]))/\(True/\(([]:List SV)=[]))/\((pj4 (pj8 ai)).1=(pj4 (pj8 ai)).1/\false=false)/\True))/\rC d35)) /\
               (((pj4 ai).2.2.1.all (Q80 (Wy (pj8 ai).2.1 (pj8 ai).2.2.1 (pj8 ai).2.2.2.1 [((gD ai.1 d32.1 (0,(0,(0,(0,false))))).1,((gD ai.1 d32.1 (0,(0,(0,(0,false))))).2.1,((gD ai.1 d32.1 (0,(0,(0,(0,false))))).2.2.1,((gD ai.1 d32.1 (0,(0,(0,(0,false))))).2.2.2.1,(gD ai.1 d32.1 (0,(0,(0,(0,false))))).2.2.2.2))))])))=false ->
                oK=oK/\(pj4 ai).2.2.2.1=w1/\lJ=lJ/\(pj4 (pj8 ai)).2=w2/\(I64 (d32.1+(1:Int)))/\(∃ d36:Int×(List (Int×Int×Int×Int×Bool)),((True/\True/\ai.2.1=ai.2.1/\(d32.1+(1:Int))=d36.1/\True)/\((ai.1=ai.1/\(List.isEmpty ai.1)=(List.isEmpty ai.1))/\((pj4 ai).2.2.2.1=(pj4 ai).2.2.2.1/\(True/\True/\True/\True/\True/\True/\True/\True/\True/\True/\True/\True/\True/\True/\True/\True/\True/\True/\True/\True/\True/\True/\True/\True/\True/\True/\True/\True/\True/\True/\True/\True/\True/\True/\True/\True/\True/\True/\True/\True/\True/\True/\True/\True/\(([]:List SV)=[])))/\(ai.2.2.1=ai.2.2.1/\ai.2.2.2.1=ai.2.2.2.1/\(pj4 ai).1=(pj4 ai).1/\(pj4 ai).2.1=(pj4 ai).2.1/\(([]:List SV)=[]))/\((pj4 ai).2.2.1=(pj4 ai).2.2.1/\(([]:List SV)=[]))/\(True/\(([]:List SV)=[]))/\(d32.2=d36.2/\(List.isEmpty d32.2)=(List.isEmpty d36.2))/\((pj4 (pj8 ai)).2=(pj4 (pj8 ai)).2/\(True/\True/\True/\True/\True/\True/\True/\True/\True/\True/\True/\True/\True/\True/\True/\True/\True/\True/\True/\True/\True/\True/\True/\True/\True/\True/\True/\(([]:List SV)=[])))/\((pj8 ai).1=(pj8 ai).1/\(pj8 ai).2.1=(pj8 ai).2.1/\(pj8 ai).2.2.1=(pj8 ai).2.2.1/\(pj8 ai).2.2.2.1=(pj8 ai).2.2.2.1/\(([]:List SV)=[]))/\(True/\(([]:List SV)=[]))/\(True/\(([]:List SV)=[]))/\((pj4 (pj8 ai)).1=(pj4 (pj8 ai)).1/\false=false)/\True))/\rC d36))) /\
              ((!((Wy (pj8 ai).2.1 (pj8 ai).2.2.1 (pj8 ai).2.2.2.1 [((gD ai.1 d32.1 (0,(0,(0,(0,false))))).1,((gD ai.1 d32.1 (0,(0,(0,(0,false))))).2.1,((gD ai.1 d32.1 (0,(0,(0,(0,false))))).2.2.1,((gD ai.1 d32.1 (0,(0,(0,(0,false))))).2.2.2.1,(gD ai.1 d32.1 (0,(0,(0,(0,false))))).2.2.2.2))))])==(pj4 (pj8 ai)).1))=false ->
               lJ=lJ/\(pj4 (pj8 ai)).2=w2/\(I64 (d32.1+(1:Int)))/\(∃ d37:Int×(List (Int×Int×Int×Int×Bool)),((True/\True/\ai.2.1=ai.2.1/\(d32.1+(1:Int))=d37.1/\True)/\((ai.1=ai.1/\(List.isEmpty ai.1)=(List.isEmpty ai.1))/\((pj4 ai).2.2.2.1=(pj4 ai).2.2.2.1/\(True/\True/\True/\True/\True/\True/\True/\True/\True/\True/\True/\True/\True/\True/\True/\True/\True/\True/\True/\True/\True/\True/\True/\True/\True/\True/\True/\True/\True/\True/\True/\True/\True/\True/\True/\True/\True/\True/\True/\True/\True/\True/\True/\True/\(([]:List SV)=[])))/\(ai.2.2.1=ai.2.2.1/\ai.2.2.2.1=ai.2.2.2.1/\(pj4 ai).1=(pj4 ai).1/\(pj4 ai).2.1=(pj4 ai).2.1/\(([]:List SV)=[]))/\((pj4 ai).2.2.1=(pj4 ai).2.2.1/\(([]:List SV)=[]))/\(True/\(([]:List SV)=[]))/\(d32.2=d37.2/\(List.isEmpty d32.2)=(List.isEmpty d37.2))/\((pj4 (pj8 ai)).2=(pj4 (pj8 ai)).2/\(True/\True/\True/\True/\True/\True/\True/\True/\True/\True/\True/\True/\True/\True/\True/\True/\True/\True/\True/\True/\True/\True/\True/\True/\True/\True/\True/\(([]:List SV)=[])))/\((pj8 ai).1=(pj8 ai).1/\(pj8 ai).2.1=(pj8 ai).2.1/\(pj8 ai).2.2.1=(pj8 ai).2.2.1/\(pj8 ai).2.2.2.1=(pj8 ai).2.2.2.1/\(([]:List SV)=[]))/\(True/\(([]:List SV)=[]))/\(True/\(([]:List SV)=[]))/\((pj4 (pj8 ai)).1=(pj4 (pj8 ai)).1/\false=false)/\True))/\rC d37)))) /\
             ((decide (d32.1<ai.2.1))=false ->
              (pj4 (pj8 ai)).2=w2/\(pj4 ai).2.2.2.1=w1/\(Q7 ai.2.2.1 ai.2.2.2.1 (pj4 ai).1 (pj4 ai).2.1=0/\ai.2.2.2.1.length<=110/\(pj4 ai).2.1.length<=110)/\(false=true->(Wy ai.2.2.2.1 (pj4 ai).1 (pj4 ai).2.1 [])=[])/\((Wy ai.2.2.2.1 (pj4 ai).1 (pj4 ai).2.1 [])≠[]/\(pj4 ai).2.2.1.length<=1000/\∀ z∈(pj4 ai).2.2.1,0<=z.1/\0<=z.2.1/\∀ s∈(Wy ai.2.2.2.1 (pj4 ai).1 (pj4 ai).2.1 []),z.2.1<s.length)/\((True/\((pj4 ai).2.2.1.all (Q80 (Wy ai.2.2.2.1 (pj4 ai).1 (pj4 ai).2.1 [])))=(Q6u hk lw hd rows ss)/\(0:Int)=KA hk lw hd rows ss/\(([]:List SV)=[]))/\((d32.2=(Lf hk lw hd rows ss)/\(List.isEmpty d32.2)=(Lf hk lw hd rows ss).isEmpty)/\True)))) jA)) jz)) d140)) d100)) d60)))
def Zq:Cx:=⟨[(43,(.pair (.i .i64) (.pair (.i .i64) (.pair (.i .i64) (.pair (.i .i64) .bo)))))],[],96,[3000094],0,[],[],[],[],false,[],[],[94],[]⟩
def Zt:List (Nat×LoopAnn):=[(0,⟨Int×Int×Int×Int×Int×(List Int)×Int×(List Int)×(List (Int×Int×Bool))×LpD×Int×(List Int)×Int×(List Int)×(List (List UInt8))×LpD,(List (Int×Int×Int×Int×Bool))×Int,[1,4,5,6,7,32,33],λe x=>[.dd 200002200000 .yv,.val (.i .i64) e.1,.val (.i .i64) e.2.1,.val (.i .i64) e.2.2.1,.lst 20000220000100045,.val (.i .i64) e.2.2.2.1,.val (.i .i64) x.2],λe x=>[(20000220000100045,.slot 7,.lst 43 (.pair (.i .i64) (.pair (.i .i64) (.pair (.i .i64) (.pair (.i .i64) .bo)))) x.1 (List.isEmpty x.1)),(2000001,.key 2000001,.lpf [.any,.any,.box 2 0,.box 3 0,.box 4 0,.any,.any,.any,.any,.any,.any,.any,.any,.any,.any,.any,.any,.any,.any,.any,.any,.any,.any,.any,.any,.any,.any,.any,.any,.any,.any,.any,.any,.any,.any,.any,.any,.any,.any,.any,.any,.any,.any,.any] e.2.2.2.2.2.2.2.2.2.1 .rdy),(2,.key 2,.cells [.val (.i .i64) e.2.2.2.2.1,.val (.list (.i .i64)) e.2.2.2.2.2.1,.val (.i .i64) e.2.2.2.2.2.2.1,.val (.list (.i .i64)) e.2.2.2.2.2.2.2.1] (some 32)),(3,.key 3,.cells [.val (.list (.pair (.i .i64) (.pair (.i .i64) .bo))) e.2.2.2.2.2.2.2.2.1] (some 56)),(4,.key 4,.cells [.nilS] (some 53)),(200002200000,.key 200002200000,.lpf [.any,.any,.box 200000200002 0,.box 200000200003 0,.box 200000200004 0,.any,.any,.any,.any,.any,.any,.any,.any,.any,.any,.any,.any,.any,.any,.any,.any,.any,.any,.any,.any,.any,.any] e.2.2.2.2.2.2.2.2.2.2.2.2.2.2.2 .rdy),(200000200002,.key 200000200002,.cells [.val (.i .i64) e.2.2.2.2.2.2.2.2.2.2.1,.val (.list (.i .i64)) e.2.2.2.2.2.2.2.2.2.2.2.1,.val (.i .i64) e.2.2.2.2.2.2.2.2.2.2.2.2.1,.val (.list (.i .i64)) e.2.2.2.2.2.2.2.2.2.2.2.2.2.1] (some 76)),(200000200003,.key 200000200003,.cells [.dd 2000001 .yv] (some 123)),(200000200004,.key 200000200004,.cells [.lst 200000200008] (some 47)),(200000200008,.cell 200000200004 0,.lst 9 .st e.2.2.2.2.2.2.2.2.2.2.2.2.2.2.1 false)]⟩),
 (2,⟨Int×Int×Int×Int×(List Int)×Int×(List Int)×(List (Int×Int×Bool))×LpD×Int×(List Int)×Int×(List Int)×(List (List UInt8))×LpD,(List (Int×Int×Int×Int×Bool))×Int,[1,4,6,7,47,48],λe x=>[.dd 200002200000 .yv,.val (.i .i64) e.1,.val (.i .i64) e.2.1,.lst 20000220000100045,.val (.i .i64) e.2.2.1,.val (.i .i64) x.2],λe x=>[(20000220000100045,.slot 7,.lst 43 (.pair (.i .i64) (.pair (.i .i64) (.pair (.i .i64) (.pair (.i .i64) .bo)))) x.1 (List.isEmpty x.1)),(2000001,.key 2000001,.lpf [.any,.any,.box 2 0,.box 3 0,.box 4 0,.any,.any,.any,.any,.any,.any,.any,.any,.any,.any,.any,.any,.any,.any,.any,.any,.any,.any,.any,.any,.any,.any,.any,.any,.any,.any,.any,.any,.any,.any,.any,.any,.any,.any,.any,.any,.any,.any,.any] e.2.2.2.2.2.2.2.2.1 .rdy),(2,.key 2,.cells [.val (.i .i64) e.2.2.2.1,.val (.list (.i .i64)) e.2.2.2.2.1,.val (.i .i64) e.2.2.2.2.2.1,.val (.list (.i .i64)) e.2.2.2.2.2.2.1] (some 32)),(3,.key 3,.cells [.val (.list (.pair (.i .i64) (.pair (.i .i64) .bo))) e.2.2.2.2.2.2.2.1] (some 56)),(4,.key 4,.cells [.nilS] (some 53)),(200002200000,.key 200002200000,.lpf [.any,.any,.box 200000200002 0,.box 200000200003 0,.box 200000200004 0,.any,.any,.any,.any,.any,.any,.any,.any,.any,.any,.any,.any,.any,.any,.any,.any,.any,.any,.any,.any,.any,.any] e.2.2.2.2.2.2.2.2.2.2.2.2.2.2 .rdy),(200000200002,.key 200000200002,.cells [.val (.i .i64) e.2.2.2.2.2.2.2.2.2.1,.val (.list (.i .i64)) e.2.2.2.2.2.2.2.2.2.2.1,.val (.i .i64) e.2.2.2.2.2.2.2.2.2.2.2.1,.val (.list (.i .i64)) e.2.2.2.2.2.2.2.2.2.2.2.2.1] (some 76)),(200000200003,.key 200000200003,.cells [.dd 2000001 .yv] (some 123)),(200000200004,.key 200000200004,.cells [.lst 200000200008] (some 47)),(200000200008,.cell 200000200004 0,.lst 9 .st e.2.2.2.2.2.2.2.2.2.2.2.2.2.1 false)]⟩),
 (4,⟨Int×Int×Int×Int×Int×(List Int)×Int×(List Int)×(List (Int×Int×Bool))×LpD×Int×(List Int)×Int×(List Int)×(List (List UInt8))×LpD,(List (Int×Int×Int×Int×Bool))×Int,[1,4,6,7,59,60],λe x=>[.dd 200002200000 .yv,.val (.i .i64) e.1,.val (.i .i64) e.2.1,.lst 20000220000100045,.agg [.val (.i .i64) e.2.2.1,.val (.i .i64) e.2.2.2.1],.val (.i .i64) x.2],λe x=>[(20000220000100045,.slot 7,.lst 43 (.pair (.i .i64) (.pair (.i .i64) (.pair (.i .i64) (.pair (.i .i64) .bo)))) x.1 (List.isEmpty x.1)),(2000001,.key 2000001,.lpf [.any,.any,.box 2 0,.box 3 0,.box 4 0,.any,.any,.any,.any,.any,.any,.any,.any,.any,.any,.any,.any,.any,.any,.any,.any,.any,.any,.any,.any,.any,.any,.any,.any,.any,.any,.any,.any,.any,.any,.any,.any,.any,.any,.any,.any,.any,.any,.any] e.2.2.2.2.2.2.2.2.2.1 .rdy),(2,.key 2,.cells [.val (.i .i64) e.2.2.2.2.1,.val (.list (.i .i64)) e.2.2.2.2.2.1,.val (.i .i64) e.2.2.2.2.2.2.1,.val (.list (.i .i64)) e.2.2.2.2.2.2.2.1] (some 32)),(3,.key 3,.cells [.val (.list (.pair (.i .i64) (.pair (.i .i64) .bo))) e.2.2.2.2.2.2.2.2.1] (some 56)),(4,.key 4,.cells [.nilS] (some 53)),(200002200000,.key 200002200000,.lpf [.any,.any,.box 200000200002 0,.box 200000200003 0,.box 200000200004 0,.any,.any,.any,.any,.any,.any,.any,.any,.any,.any,.any,.any,.any,.any,.any,.any,.any,.any,.any,.any,.any,.any] e.2.2.2.2.2.2.2.2.2.2.2.2.2.2.2 .rdy),(200000200002,.key 200000200002,.cells [.val (.i .i64) e.2.2.2.2.2.2.2.2.2.2.1,.val (.list (.i .i64)) e.2.2.2.2.2.2.2.2.2.2.2.1,.val (.i .i64) e.2.2.2.2.2.2.2.2.2.2.2.2.1,.val (.list (.i .i64)) e.2.2.2.2.2.2.2.2.2.2.2.2.2.1] (some 76)),(200000200003,.key 200000200003,.cells [.dd 2000001 .yv] (some 123)),(200000200004,.key 200000200004,.cells [.lst 200000200008] (some 47)),(200000200008,.cell 200000200004 0,.lst 9 .st e.2.2.2.2.2.2.2.2.2.2.2.2.2.2.1 false)]⟩),
 (6,⟨Int×Int×Int×Int×Int×Int×Int×Int×(List Int)×Int×(List Int)×(List (Int×Int×Bool))×LpD×Int×(List Int)×Int×(List Int)×(List (List UInt8))×LpD,(List (Int×Int×Int×Int×Bool))×Int,[1,4,6,7,11,59,60,63,64],λe x=>[.dd 200002200000 .yv,.val (.i .i64) e.1,.val (.i .i64) e.2.1,.lst 20000220000100045,.val (.i .i64) e.2.2.1,.agg [.val (.i .i64) e.2.2.2.1,.val (.i .i64) e.2.2.2.2.1],.val (.i .i64) e.2.2.2.2.2.1,.val (.i .i64) e.2.2.2.2.2.2.1,.val (.i .i64) x.2],λe x=>[(20000220000100045,.slot 7,.lst 43 (.pair (.i .i64) (.pair (.i .i64) (.pair (.i .i64) (.pair (.i .i64) .bo)))) x.1 (List.isEmpty x.1)),(2000001,.key 2000001,.lpf [.any,.any,.box 2 0,.box 3 0,.box 4 0,.any,.any,.any,.any,.any,.any,.any,.any,.any,.any,.any,.any,.any,.any,.any,.any,.any,.any,.any,.any,.any,.any,.any,.any,.any,.any,.any,.any,.any,.any,.any,.any,.any,.any,.any,.any,.any,.any,.any] e.2.2.2.2.2.2.2.2.2.2.2.2.1 .rdy),(2,.key 2,.cells [.val (.i .i64) e.2.2.2.2.2.2.2.1,.val (.list (.i .i64)) e.2.2.2.2.2.2.2.2.1,.val (.i .i64) e.2.2.2.2.2.2.2.2.2.1,.val (.list (.i .i64)) e.2.2.2.2.2.2.2.2.2.2.1] (some 32)),(3,.key 3,.cells [.val (.list (.pair (.i .i64) (.pair (.i .i64) .bo))) e.2.2.2.2.2.2.2.2.2.2.2.1] (some 56)),(4,.key 4,.cells [.nilS] (some 53)),(200002200000,.key 200002200000,.lpf [.any,.any,.box 200000200002 0,.box 200000200003 0,.box 200000200004 0,.any,.any,.any,.any,.any,.any,.any,.any,.any,.any,.any,.any,.any,.any,.any,.any,.any,.any,.any,.any,.any,.any] e.2.2.2.2.2.2.2.2.2.2.2.2.2.2.2.2.2.2 .rdy),(200000200002,.key 200000200002,.cells [.val (.i .i64) e.2.2.2.2.2.2.2.2.2.2.2.2.2.1,.val (.list (.i .i64)) e.2.2.2.2.2.2.2.2.2.2.2.2.2.2.1,.val (.i .i64) e.2.2.2.2.2.2.2.2.2.2.2.2.2.2.2.1,.val (.list (.i .i64)) e.2.2.2.2.2.2.2.2.2.2.2.2.2.2.2.2.1] (some 76)),(200000200003,.key 200000200003,.cells [.dd 2000001 .yv] (some 123)),(200000200004,.key 200000200004,.cells [.lst 200000200008] (some 47)),(200000200008,.cell 200000200004 0,.lst 9 .st e.2.2.2.2.2.2.2.2.2.2.2.2.2.2.2.2.2.1 false)]⟩),
 (8,⟨Int×Int×(List Int)×Int×(List Int)×(List (Int×Int×Bool))×LpD×Int×(List Int)×Int×(List Int)×(List (List UInt8))×LpD,(List (Int×Int×Int×Int×Bool))×Int,[1,7,75,76],λe x=>[.dd 200002200000 .yv,.lst 20000220000100045,.val (.i .i64) e.1,.val (.i .i64) x.2],λe x=>[(20000220000100045,.slot 7,.lst 43 (.pair (.i .i64) (.pair (.i .i64) (.pair (.i .i64) (.pair (.i .i64) .bo)))) x.1 (List.isEmpty x.1)),(2000001,.key 2000001,.lpf [.any,.any,.box 2 0,.box 3 0,.box 4 0,.any,.any,.any,.any,.any,.any,.any,.any,.any,.any,.any,.any,.any,.any,.any,.any,.any,.any,.any,.any,.any,.any,.any,.any,.any,.any,.any,.any,.any,.any,.any,.any,.any,.any,.any,.any,.any,.any,.any] e.2.2.2.2.2.2.1 .rdy),(2,.key 2,.cells [.val (.i .i64) e.2.1,.val (.list (.i .i64)) e.2.2.1,.val (.i .i64) e.2.2.2.1,.val (.list (.i .i64)) e.2.2.2.2.1] (some 32)),(3,.key 3,.cells [.val (.list (.pair (.i .i64) (.pair (.i .i64) .bo))) e.2.2.2.2.2.1] (some 56)),(4,.key 4,.cells [.nilS] (some 53)),(200002200000,.key 200002200000,.lpf [.any,.any,.box 200000200002 0,.box 200000200003 0,.box 200000200004 0,.any,.any,.any,.any,.any,.any,.any,.any,.any,.any,.any,.any,.any,.any,.any,.any,.any,.any,.any,.any,.any,.any] e.2.2.2.2.2.2.2.2.2.2.2.2 .rdy),(200000200002,.key 200000200002,.cells [.val (.i .i64) e.2.2.2.2.2.2.2.1,.val (.list (.i .i64)) e.2.2.2.2.2.2.2.2.1,.val (.i .i64) e.2.2.2.2.2.2.2.2.2.1,.val (.list (.i .i64)) e.2.2.2.2.2.2.2.2.2.2.1] (some 76)),(200000200003,.key 200000200003,.cells [.dd 2000001 .yv] (some 123)),(200000200004,.key 200000200004,.cells [.lst 200000200008] (some 47)),(200000200008,.cell 200000200004 0,.lst 9 .st e.2.2.2.2.2.2.2.2.2.2.2.1 false)]⟩),
 (10,⟨(List (Int×Int×Int×Int×Bool))×Int×Int×(List Int)×Int×(List Int)×(List (Int×Int×Bool))×LpD×Int×(List Int)×Int×(List Int)×(List (List UInt8))×LpD,Int×(List (Int×Int×Int×Int×Bool)),[1,85,86,87],λe x=>[.dd 200002200000 .yv,.lst 20000220000100045,.val (.i .i64) e.2.1,.val (.i .i64) x.1],λe x=>[(20000220000100045,.slot 85,.lst 43 (.pair (.i .i64) (.pair (.i .i64) (.pair (.i .i64) (.pair (.i .i64) .bo)))) e.1 (List.isEmpty e.1)),(2000001,.key 2000001,.lpf [.any,.any,.box 2 0,.box 3 0,.box 4 0,.any,.any,.any,.any,.any,.any,.any,.any,.any,.any,.any,.any,.any,.any,.any,.any,.any,.any,.any,.any,.any,.any,.any,.any,.any,.any,.any,.any,.any,.any,.any,.any,.any,.any,.any,.any,.any,.any,.any] e.2.2.2.2.2.2.2.1 .rdy),(2,.key 2,.cells [.val (.i .i64) e.2.2.1,.val (.list (.i .i64)) e.2.2.2.1,.val (.i .i64) e.2.2.2.2.1,.val (.list (.i .i64)) e.2.2.2.2.2.1] (some 32)),(3,.key 3,.cells [.val (.list (.pair (.i .i64) (.pair (.i .i64) .bo))) e.2.2.2.2.2.2.1] (some 56)),(4,.key 4,.cells [.lst 37] (some 53)),(37,.cell 4 0,.lst 43 (.pair (.i .i64) (.pair (.i .i64) (.pair (.i .i64) (.pair (.i .i64) .bo)))) x.2 (List.isEmpty x.2)),(200002200000,.key 200002200000,.lpf [.any,.any,.box 200000200002 0,.box 200000200003 0,.box 200000200004 0,.any,.any,.any,.any,.any,.any,.any,.any,.any,.any,.any,.any,.any,.any,.any,.any,.any,.any,.any,.any,.any,.any] e.2.2.2.2.2.2.2.2.2.2.2.2.2 .rdy),(200000200002,.key 200000200002,.cells [.val (.i .i64) e.2.2.2.2.2.2.2.2.1,.val (.list (.i .i64)) e.2.2.2.2.2.2.2.2.2.1,.val (.i .i64) e.2.2.2.2.2.2.2.2.2.2.1,.val (.list (.i .i64)) e.2.2.2.2.2.2.2.2.2.2.2.1] (some 76)),(200000200003,.key 200000200003,.cells [.dd 2000001 .yv] (some 123)),(200000200004,.key 200000200004,.cells [.lst 200000200008] (some 47)),(200000200008,.cell 200000200004 0,.lst 9 .st e.2.2.2.2.2.2.2.2.2.2.2.2.1 false)]⟩)]
def WQ:Cx:=⟨[(43,(.pair (.i .i64) (.pair (.i .i64) (.pair (.i .i64) (.pair (.i .i64) .bo)))))],[(27,CSp.or JS Zy),(64,X6)],27,[3000026],0,[],[],[],[],false,[],[(63,J0e Zq Zt c63 96)],[20,26],[]⟩
def WO:List (Nat×LoopAnn):=[]
def LA:Cx:=⟨[(43,(.pair (.i .i64) (.pair (.i .i64) (.pair (.i .i64) (.pair (.i .i64) .bo)))))],[(35,K7),(36,Qk),(33,GZ),(38,Hl),(27,CSp.or JS Zy)],44,[],0,[],[],[],[],false,[],[(37,J0e WQ WO c37 27)],[],[]⟩
def Q38 (hk:Int) (lw:List Int) (hd:Int) (rows:List Int) (ss:List (Int×Int×Bool)):List (Nat×LoopAnn):=[]
theorem Q34 (d:(Int×List Int×Int×List Int)×List (Int×Int×Bool)):gwp (LA) (Q38 d.1.1 d.1.2.1 d.1.2.2.1 d.1.2.2.2 d.2) c14 0 (Yh [.cell 4 false 1,.tmp 5,.tmp 6] (Rn d) (Rs d)) (Qo 44 (AL.can Ln d))=Mu d.1.1 d.1.2.1 d.1.2.2.1 d.1.2.2.2 d.2:=by kernel_rfl
abbrev Q19:Prop:=OkC Tryz.prog 14 Ti
theorem Q3b (h:∀ (hk:Int) (lw:List Int) (hd:Int) (rows:List Int) (ss:List (Int×Int×Bool)),(lw.length<=110/\rows.length<=110/\ss.length<=1000)->Mu hk lw hd rows ss):OkC Tryz.prog 14 Ti :=
 Qu Z75 mixed (C:=LA) (V:=λ(d:(Int×List Int×Int×List Int)×List (Int×Int×Bool))=>Mu d.1.1 d.1.2.1 d.1.2.2.1 d.1.2.2.2 d.2) ⟨(.cons Mo (.cons Ze (.cons I3 (.cons O7 (.cons (OkC.or Y5 JQ) .nil))))),XsOk.nil,ItsOk.nil,YlOk.nil,(IysOk.cons (Q4i Z6q mixed (C:=WQ) ⟨(.cons (OkC.or Y5 JQ) (.cons UF .nil)),XsOk.nil,ItsOk.nil,YlOk.nil,(IysOk.cons (Q4i Z66 mixed (C:=Zq) ⟨.nil,XsOk.nil,ItsOk.nil,YlOk.nil,IysOk.nil,XfOk.nil⟩ Zt) IysOk.nil),XfOk.nil⟩ WO) IysOk.nil),XfOk.nil⟩ (Q34) λd hp=>h d.1.1 d.1.2.1 d.1.2.2.1 d.1.2.2.2 d.2 hp
set_option maxHeartbeats 1000000 in
theorem Q1h:Q19:=Q3b λhk lw hd rows ss h=>by
 obtain⟨dM,bG,pJ⟩:=h;unfold Mu;(try delta lI gD sT I64 Q1 pj8 pj4);refine⟨⟨dM,bG⟩,λh1=>?_,λh1=>⟨λh2=>?_,λh2=>⟨⟨by omega,λ_ _=>dM⟩,λh3=>?_,λh3=>?_⟩⟩⟩
 .have h1:Q7 hk lw hd rows≠0:=by simpa using h1
  have e:KA hk lw hd rows ss=Q7 hk lw hd rows:=by unfold KA;rw[z2 h1]
  have e1:Lf hk lw hd rows ss=[]:=by unfold Lf;rw[z0 (by omega)]
  have e2:Q6u hk lw hd rows ss=false:=by unfold Q6u;rw[z0 (by omega)]
  rw[e,e1,e2];exact(by and_intros<;>first|rfl|trivial|simp)
 .have h1:Q7 hk lw hd rows=0:=by simpa using h1
  have h2:60<ss.length:=by have:=zA h2;omega
  have e:KA hk lw hd rows ss=5:=by unfold KA;rw[z0 (by omega),z2 h2]
  have e1:Lf hk lw hd rows ss=[]:=by unfold Lf;rw[z0 (by omega)]
  have e2:Q6u hk lw hd rows ss=false:=by unfold Q6u;rw[z0 (by omega)]
  rw[e,e1,e2];exact(by and_intros<;>first|rfl|trivial|simp)
 .have h1:Q7 hk lw hd rows=0:=by simpa using h1
  have h2:¬ 60<ss.length:=by have:=zt h2;omega
  have e:KA hk lw hd rows ss=2:=by unfold KA;rw[z0 (by omega),z0 h2,z2 h3]
  have e1:Lf hk lw hd rows ss=[]:=by unfold Lf;rw[z0 (by omega)]
  have e2:Q6u hk lw hd rows ss=false:=by unfold Q6u;rw[z0 (by omega)]
  rw[e,e1,e2];exact(by and_intros<;>first|rfl|trivial|simp)
 .have h1:Q7 hk lw hd rows=0:=by simpa using h1
  have h2:¬ 60<ss.length:=by have:=zt h2;omega
  have e:KA hk lw hd rows ss=0:=by unfold KA;rw[z0 (by omega),z0 h2,z0];rw[show (ss.any λs=>!Q8k lw s)=false from h3];simp
  have e1:Lf hk lw hd rows ss=(dmA hd rows lw).filter (Bo lw hd rows ss):=by unfold Lf;rw[z2 e]
  have e2:Q6u hk lw hd rows ss=ss.all (Q80 (Wy lw hd rows [])):=by unfold Q6u;rw[z2 e]
  obtain⟨_,_,eP⟩:=Z2q e;rw[e,e1,e2];clear e e1 e2 h3;obtain⟨f0,f1,f2,f3,f4,f5,f6⟩:=U8 h1;obtain⟨k1,k2⟩:=Lt (ds:=[]) h1 (λz hz=>by cases hz);have nM:((hd.toNat:Nat):Int)=hd:=by omega
  have eM:rows.length*hd.toNat<=60*24:=Nat.mul_le_mul f5 (by omega);have l7:(rows.length:Int)*hd=((rows.length*hd.toNat:Nat):Int):=by push_cast;rw[nM]
  have vp:1<=lw.length:=by have:=Dh f0;omega
  refineλw1=>⟨⟨h1,dM,bG⟩,λw2=>⟨by rw[l7,Qm];omega,((rows.length:Int),hd,(lw.length:Int),(rows.length:Int)*hd,hk,lw,hd,rows,ss,w1,hk,lw,hd,rows,Wy lw hd rows [],w2),([],0),(by and_intros<;>first|rfl|trivial|simp),?_⟩⟩;dsimp only;rw[l7];refine LoopP.count2 (rows.length*hd.toNat) (λk x=>x=dmC hd.toNat k) rfl (λk x aB hx q hq=>?_);subst hx;dsimp only;refine⟨λc=>?_,λc=>?_⟩
  .have c:k<rows.length*hd.toNat:=by have:=zA c;omega
   have hq:=hq _ c rfl;rw[Z1f] at hq;have t1:Int.tdiv (k:Int) hd=((k / hd.toNat:Nat):Int):=by
    conv=>lhs;rw[<-nM]
    rfl
   have t2:Int.tmod (k:Int) hd=((k % hd.toNat:Nat):Int):=by
    conv=>lhs;rw[<-nM]
    rfl
   have t3:k / hd.toNat<=k:=Nat.div_le_self _ _;rw[t1,t2];clear t1 t2;generalize k / hd.toNat=a at *
   generalize k % hd.toNat=b at *
   refine⟨by omega,by rw[Qm];omega,by omega,by rw[Q3m];simp only[zr,List.length_nil];omega,by rw[Qm];omega,_,?_,hq⟩;exact(by and_intros<;>first|rfl|trivial|simp)
  .have c:k=rows.length*hd.toNat:=by
    have:=zt c;omega
   subst c;refine⟨((rows.length:Int),(lw.length:Int),hd,hk,lw,hd,rows,ss,w1,hk,lw,hd,rows,Wy lw hd rows [],w2),(dmC hd.toNat (rows.length*hd.toNat),0),(by and_intros<;>first|rfl|trivial|simp),?_⟩;dsimp only;have wk:=Q3m hd.toNat (rows.length*hd.toNat);generalize hA:dmC hd.toNat (rows.length*hd.toNat)=A1 at *
   refine LoopP.count2 hd.toNat (λk x=>x=A1++dmN k) (by simp[dmN]) (λk x aB hx q hq=>?_);subst hx;dsimp only;refine⟨λc=>?_,λc=>?_⟩
   .have c:k<hd.toNat:=by
     have:(k:Int)<hd:=by simpa using c
     omega
    have hq:=hq _ c rfl;rw[Q53,<-zJ] at hq;refine⟨by rw[zn,Oy];simp only[zr,List.length_nil];omega,by rw[Qm];omega,_,?_,hq⟩;exact(by and_intros<;>first|rfl|trivial|simp)
   .have c:k=hd.toNat:=by
     have:¬ (k:Int)<hd:=by simpa using c
     omega
    subst c;refine⟨((rows.length:Int),(lw.length:Int),3,4,hk,lw,hd,rows,ss,w1,hk,lw,hd,rows,Wy lw hd rows [],w2),(A1++dmN hd.toNat,0),(by and_intros<;>first|rfl|trivial|simp),?_⟩;dsimp only;have wm:(A1++dmN hd.toNat).length<=1600:=by rw[zn,Oy];omega
    have rD:dmA hd rows lw=A1++dmN hd.toNat++dmP 3 rows.length++dmP 4 rows.length++dmT lw.length:=by unfold dmA;rw[hA]
    generalize A1++dmN hd.toNat=A2 at *
    refine⟨λd=>d=(A2,0)\/d=(A2++dmP 3 rows.length,1)\/d=(A2++dmP 3 rows.length++dmP 4 rows.length,2),λd=>(2-d.2).toNat,.inl rfl,?_⟩;rintro _ (rfl|rfl|rfl)
    .dsimp only;refine⟨λ_=>⟨by omega,by omega,λ_=>?_,λc=>by (cases c),trivial⟩,λc=>by (simp at c)⟩
     .refine⟨((rows.length:Int),(lw.length:Int),3,3,4,0,(rows.length:Int),hk,lw,hd,rows,ss,w1,hk,lw,hd,rows,Wy lw hd rows [],w2),(A2,0),(by and_intros<;>first|rfl|trivial|simp),?_⟩;dsimp only;refine LoopP.count2 rows.length (λk x=>x=A2++dmP 3 k) (by simp[dmP]) (λk x aB hx q hq=>?_);subst hx;dsimp only;refine⟨λc=>?_,λc=>?_⟩
      .have c:k<rows.length:=by have:=zA c;omega
       have hq:=hq _ c rfl;rw[Q6f,<-zJ] at hq;refine⟨by simp only[zn,SJ,zr,List.length_nil];omega,by rw[Qm];omega,_,?_,hq⟩;exact(by and_intros<;>first|rfl|trivial|simp)
      .have c:k=rows.length:=by have:=zt c;omega
       subst c;exact⟨by rw[Qm];omega,(A2++dmP 3 rows.length,0+1),(by and_intros<;>first|rfl|trivial|simp),.inr (.inl rfl),by simp⟩
    .dsimp only;have wo:(A2++dmP 3 rows.length).length<=1700:=by rw[zn,SJ];omega
     generalize A2++dmP 3 rows.length=A3 at *
     refine⟨λ_=>⟨by omega,by omega,λc=>by (cases c),λ_=>?_,trivial⟩,λc=>by (simp at c)⟩
     .refine⟨((rows.length:Int),(lw.length:Int),4,3,4,1,(rows.length:Int),hk,lw,hd,rows,ss,w1,hk,lw,hd,rows,Wy lw hd rows [],w2),(A3,0),(by and_intros<;>first|rfl|trivial|simp),?_⟩;dsimp only;refine LoopP.count2 rows.length (λk x=>x=A3++dmP 4 k) (by simp[dmP]) (λk x aB hx q hq=>?_);subst hx;dsimp only;refine⟨λc=>?_,λc=>?_⟩
      .have c:k<rows.length:=by have:=zA c;omega
       have hq:=hq _ c rfl;rw[Q6f,<-zJ] at hq;refine⟨by simp only[zn,SJ,zr,List.length_nil];omega,by rw[Qm];omega,_,?_,hq⟩;exact(by and_intros<;>first|rfl|trivial|simp)
      .have c:k=rows.length:=by have:=zt c;omega
       subst c;exact⟨by rw[Qm];omega,(A3++dmP 4 rows.length,1+1),(by and_intros<;>first|rfl|trivial|simp),.inr (.inr rfl),by simp⟩
    .dsimp only;refine⟨λc=>by (simp at c),λ_=>?_⟩;have vq:(A2++dmP 3 rows.length++dmP 4 rows.length).length<=1800:=by rw[zn,zn,SJ,SJ];omega
     generalize A2++dmP 3 rows.length++dmP 4 rows.length=A4 at *
     refine⟨((lw.length:Int),hk,lw,hd,rows,ss,w1,hk,lw,hd,rows,Wy lw hd rows [],w2),(A4,0),(by and_intros<;>first|rfl|trivial|simp),?_⟩;dsimp only;refine LoopP.count2 lw.length (λk x=>x=A4++dmT k) (by simp[dmT]) (λk x aB hx q hq=>?_);subst hx;dsimp only;refine⟨λc=>?_,λc=>?_⟩
     .have c:k<lw.length:=by have:=zA c;omega
      have hq:=hq _ c rfl;rw[Z1j,<-zJ] at hq;refine⟨by simp only[zn,Q3w,zr,List.length_nil];omega,by rw[Qm];omega,_,?_,hq⟩;exact(by and_intros<;>first|rfl|trivial|simp)
     .have c:k=lw.length:=by have:=zt c;omega
      subst c;rw[<-rD];have wq:(dmA hd rows lw).length<=2000:=by rw[rD,zn,Q3w];omega
      have sV:=Z6e (hd:=hd) (rows:=rows) (lw:=lw) f2 f4 vp;clear rD vq;generalize dmA hd rows lw=A at *
      refine⟨(A,(A.length:Int),hk,lw,hd,rows,ss,w1,hk,lw,hd,rows,Wy lw hd rows [],w2),(0,[]),(by and_intros<;>first|rfl|trivial|simp),?_⟩;dsimp only;refine LoopP.count1 A.length (λk x=>x=(A.take k).filter (Bo lw hd rows ss)) rfl (λk x aB hx q hq=>?_);subst hx;dsimp only;simp only[z7];refine⟨λc=>?_,λc=>?_⟩
      .have c:k<A.length:=by have:=zA c;omega
       have ex:((A.getD k (0,(0,(0,(0,false))))).1,((A.getD k (0,(0,(0,(0,false))))).2.1,((A.getD k (0,(0,(0,(0,false))))).2.2.1,((A.getD k (0,(0,(0,(0,false))))).2.2.2.1,(A.getD k (0,(0,(0,(0,false))))).2.2.2.2))))=A.getD k (0,(0,(0,(0,false)))):=rfl;rw[ex];have hx:A.getD k (0,(0,(0,(0,false))))∈A:=by rw[Qf c];exact zd c
       have ml:(A.take (k+1)).filter (Bo lw hd rows ss)=(A.take k).filter (Bo lw hd rows ss)++(if Bo lw hd rows ss (A.getD k (0,(0,(0,(0,false)))))=true then [A.getD k (0,(0,(0,(0,false))))] else []):=by rw[QO c,List.filter_append,Qf c];congr 1;rw[List.filter_cons];split<;>rfl
       have hq:=hq _ c rfl;rw[ml] at hq;clear ml ex;have vt:=List.length_filter_le (Bo lw hd rows ss) (A.take k);rw[xI] at vt;generalize (A.take k).filter (Bo lw hd rows ss)=L at *
       generalize A.getD k (0,(0,(0,(0,false))))=x at *
       obtain⟨r1,r2⟩:=Lt (ds:=[x]) h1 (λz hz=>by rw[zx.1 hz];exact sV _ hx);refine⟨by omega,by omega,trivial,λlJ=>⟨⟨h1,dM,bG,rfl,λz hz=>by rw[zx.1 hz];exact sV _ hx⟩,by omega,λaJ=>⟨trivial,λoK=>⟨⟨λe=>by rw[e] at r1;simp at r1;omega,pJ,λz hz=>?_⟩,λhf=>?_,λhf=>?_⟩⟩,λheq=>?_⟩⟩
       .obtain⟨g1,_,g3,g4⟩:=Q3c (eP z hz);exact⟨g1,g3,λs hs=>by rw[(r2 s hs).1];exact g4⟩
       .have hP:Bo lw hd rows ss x=true:=by unfold Bo;rw[aJ,hf];rfl
        rw[z2 hP] at hq;refine⟨by simp only[zr,List.length_nil];omega,trivial,trivial,trivial,trivial,by rw[Qm];omega,((k:Int)+1,L++[x]),?_,hq⟩;exact(by and_intros<;>first|rfl|trivial|simp)
       .have hP:¬ Bo lw hd rows ss x=true:=by unfold Bo;rw[hf];simp
        rw[z0 hP,xt] at hq;repeat (refine And.intro trivial ?_)
        refine⟨by rw[Qm];omega,((k:Int)+1,L),?_,hq⟩;exact(by and_intros<;>first|rfl|trivial|simp)
       .have hP:¬ Bo lw hd rows ss x=true:=by unfold Bo;rw[heq];simp
        rw[z0 hP,xt] at hq;repeat (refine And.intro trivial ?_)
        refine⟨by rw[Qm];omega,((k:Int)+1,L),?_,hq⟩;exact(by and_intros<;>first|rfl|trivial|simp)
      .have c:k=A.length:=by have:=zt c;omega
       subst c;rw[List.take_length];repeat (refine And.intro trivial ?_)
       refine⟨⟨h1,dM,bG⟩,(λc=>by cases c),⟨λe=>by rw[e] at k1;simp at k1;omega,pJ,λz hz=>?_⟩,?_⟩
       .obtain⟨g1,_,g3,g4⟩:=Q3c (eP z hz);exact⟨g1,g3,λs hs=>by rw[(k2 s hs).1];exact g4⟩
       .exact(by and_intros<;>first|rfl|trivial|simp)
end Go.Proofs.Tryz