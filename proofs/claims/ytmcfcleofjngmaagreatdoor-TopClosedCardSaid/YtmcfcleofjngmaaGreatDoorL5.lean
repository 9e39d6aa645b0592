
import Derived.Test.YtmcfcleofjngmaaGreatDoorL4
set_option linter.unusedVariables false
set_option maxRecDepth 100000
namespace Go.Proofs.Tryz
open Go Go.V Go.Proofs
abbrev zD:Int×Int×Int×Int×Bool:=(0,(0,(0,(0,false))))
abbrev nS:Prop:=([]:List SV)=[]
abbrev q4 {A B C D E:Type}(x:A×B×C×D×E):E:=x.2.2.2.2
def inI (n a b:Int):Bool:=decide (a<=n)&&decide (n<=b)
def Xr (hk:Int) (lw:List Int):Int:=if !inI hk 1 24 then 2 else if 96<lw.length then 5 else if lw.length=0 then 7 else if lw.any (λx=>!inI x 0 (hk-1)) then 2 else 0
def Q7h (l:List Int) (p:Int->Bool):Int:=match l.findIdx? p with|some i=>(i:Int)|none=>-1
def Ek {α:Type}(l:List α) (p:α->Bool):Int:=match l.findIdx? p with|some i=>(i:Int)|none=>-1
def hkN (m h8:Int):Int:=1+Int.tmod h8 m
def Bl (b:Bool):Int:=if b then 120 else 46
def ZF (lw:List Int) (row:Int):List UInt8:=lw.map λk=>if row.toNat.testBit k.toNat then 120 else 46
def Q4 (hd:Int) (rows:List Int):Int:=if !inI hd 1 24 then 2 else if 60<rows.length then 5 else if rows.length=0 then 7 else if rows.any (λx=>!inI x 0 (2 ^ hd.toNat-1)) then 2 else 0
def Q6 (hk:Int) (lw:List Int) (hd:Int) (rows:List Int):Int:=if Xr hk lw≠0 then Xr hk lw else if Q4 hd rows≠0 then Q4 hd rows else if hd≠hk then 4 else 0
def QY (hk:Int) (lw:List Int) (hd:Int) (rows:List Int):List (List UInt8):=if Q6 hk lw hd rows=0 then rows.map (ZF lw) else []
theorem S2 {hk:Int}{lw:List Int}(h:Xr hk lw=0):1<=hk/\hk<=24/\lw.length<=96/\lw.length≠0/\∀ x∈lw,0<=x/\x<hk:=by
 unfold Xr at h;split at h
 .cases h
 .rename_i h1;split at h
  .cases h
  .rename_i h2;split at h
   .cases h
   .rename_i h3;split at h
    .cases h
    .rename_i h4;have h1:1<=hk/\hk<=24:=by simpa [inI] using h1
     refine⟨h1.1,h1.2,by omega,h3,λx hx=>?_⟩;have h5:∀ x∈lw,inI x 0 (hk-1)=true:=by simpa using h4
     have:=h5 x hx;simp only[inI,z0,zf] at this;omega
theorem SF {α:Type}{l:List α}{p:α->Bool}{k:Nat}(hk:k<l.length) (h:p l[k]=true) (hJ:(l.take k).any p=false):Ek l p=k:=by
 have:l.findIdx? p=some k:=by rw[List.findIdx?_eq_some_iff_getElem];refine⟨hk,h,λj hj=>?_⟩;have hn:=xw.1 hJ l[j] (List.mem_take_iff_getElem.2 ⟨j,by omega,rfl⟩);simpa using hn
 simp[Ek,this]
theorem BW {α:Type}{l:List α}{p:α->Bool}(hJ:l.any p=false):Ek l p=-1:=by
 have:l.findIdx? p=none:=by rw[List.findIdx?_eq_none_iff];intro x hx;have:=xw.1 hJ x hx;simpa using this
 simp[Ek,this]
theorem EX {α:Type}(l:List α) (p:α->Bool):(decide (Ek l p>=0))=l.any p:=by
 cases h:l.any p with
 |false=>rw[BW h];rfl
 |true =>
  have:(l.findIdx? p).isSome=true:=by rw[List.findIdx?_isSome,h]
  obtain⟨i,hi⟩:=Option.isSome_iff_exists.1 this;have e:Ek l p=(i:Int):=by simp[Ek,hi]
  rw[e];exact xe (Int.natCast_nonneg i)
def rowAt (rows:List Int) (p:Int):Nat:=(rows.getD (p.toNat % rows.length) 0).toNat
abbrev Dmg:=Int×Int×Int×Int×Bool
def BK (hd:Int) (rows lw:List Int) (d:Dmg):Bool :=
 inI d.1 1 5&&(if d.1=1 then d.2.2.2.1==0&&!d.2.2.2.2 else if d.1=2 then d.2.1==0&&d.2.2.2.1==0 else if d.1=5 then d.2.1==0&&d.2.2.1==0&&!d.2.2.2.2 else d.2.2.1==0&&d.2.2.2.1==0&&!d.2.2.2.2) &&
  inI d.2.1 0 (rows.length-1)&&inI d.2.2.1 0 (hd-1)&&inI d.2.2.2.1 0 (lw.length-1)
def Wx (hk:Int) (lw:List Int) (hd:Int) (rows:List Int) (ds:List Dmg):Int:=if Q6 hk lw hd rows≠0 then Q6 hk lw hd rows else if 100<ds.length then 5 else if ds.any (λd=>!BK hd rows lw d) then 2 else 0
def Qs (hk:Int) (lw:List Int) (hd:Int) (rows:List Int) (ds:List Dmg) (n:Int):Int:=if Wx hk lw hd rows ds≠0 then Wx hk lw hd rows ds else if inI n 1 120 then 0 else 3
def De (k:Int):Int:=if k=2 then 1 else if k=5 then 2 else 0
def Z1l (n:Nat) (r:Nat):Nat->Nat
 |0=>0
 |h+1=>Z1l n r h*2+(if r.testBit h then 1 else 0)
def Hi (hd:Int) (rows:List Int) (d:Dmg):List Int :=
 if d.1=1 then rows.set d.2.1.toNat (((rows.getD d.2.1.toNat 0).toNat ^^^ 2 ^ d.2.2.1.toNat:Nat):Int)
 else if d.1=2 then rows.map λr=>((if d.2.2.2.2 then r.toNat ||| 2 ^ d.2.2.1.toNat else (r.toNat ||| 2 ^ d.2.2.1.toNat) ^^^ 2 ^ d.2.2.1.toNat:Nat):Int)
 else if d.1=3 then rows.set d.2.1.toNat ((Z1l hd.toNat (rows.getD d.2.1.toNat 0).toNat hd.toNat:Nat):Int)
 else if d.1=4 then (rows.set d.2.1.toNat (rows.getD ((d.2.1.toNat+1) % rows.length) 0)).set ((d.2.1.toNat+1) % rows.length) (rows.getD d.2.1.toNat 0)
 else rows
def CA (d:Dmg) (s:List UInt8):List UInt8:=if d.1=5 then s.set d.2.2.2.1.toNat 46 else s
def XR (lw:List Int) (hd:Int) (rows:List Int) (ds:List Dmg):List (List UInt8):=match ds with
 |[]=>rows.map (ZF lw)
 |d::_=>(Hi hd rows d).map λr=>CA d (ZF lw r)
def Q92 (lw:List Int) (hd:Int) (rows:List Int) (ds:List Dmg) (n:Nat):List (List UInt8):=(List.range n).map λi=>(XR lw hd rows ds).getD (i % (XR lw hd rows ds).length) []
def Q7i (i:Nat) (s t:List UInt8):List (Int×Int×Bool):=((List.range s.length).filter λ(w:Nat)=>s.getD w 0 != t.getD w 0).map λ(w:Nat)=>((i:Int),((w:Int),s.getD w 0==120))
def Z2t (a b:List (List UInt8)):List (Int×Int×Bool):=(List.range a.length).flatMap λi=>Q7i i (a.getD i []) (b.getD i [])
def SY (hk:Int) (lw:List Int) (hd:Int) (rows:List Int) (ds:List Dmg) (n:Int):List (Int×Int×Bool):=if Qs hk lw hd rows ds n=0 then Z2t (Q92 lw hd rows ds n.toNat) (Q92 lw hd rows [] n.toNat) else []
theorem Q5c (i:Nat) (s:List UInt8):Q7i i s s=[]:=by unfold Q7i;rw[List.filter_eq_nil_iff.2 (λw _=>by simp)];rfl
def WK:AL (List Int×((Int->Prop)×(Int->Bool))):=(.cons (.k (.list (.i .i64))) (.one (.fn [(.i .i64)] .bo)))
def Vk (d:List Int×((Int->Prop)×(Int->Bool))):Prop:=d.1.length<=1000000/\∀ x∈d.1,d.2.1 x
def Wk (d:List Int×((Int->Prop)×(Int->Bool))):SV:=.val (.i .i64) (Q7h d.1 d.2.2)
def Ws (d:List Int×((Int->Prop)×(Int->Bool))):List OB:=[]
def X6:CSp:=Wt WK Vk Wk Ws
def ZD (l:List Int) (p:(Int->Prop)×(Int->Bool)):Prop :=
 ∃ (e2:Unit) (d20:Int),((l=l/\(SV.pf [(.i .i64)] .bo p.1 p.2=SV.pf [(.i .i64)] .bo p.1 p.2)/\(lI l)=(lI l)/\(0:Int)=d20/\True)/\(True)) /\
 LoopP (λ(d2:Int) (q2:(Int)->Prop) =>
  ((decide (d2<(lI l)))=true ->
   (0<=d2)/\(d2<l.length)/\(p.1 (gD l d2 0))/\((p.2 (gD l d2 0))=true ->
    (d2=(Q7h l p.2)/\(True))) /\
   ((p.2 (gD l d2 0))=false ->
    (I64 (d2+(1:Int)))/\(∃ d3:Int,((l=l/\(SV.pf [(.i .i64)] .bo p.1 p.2=SV.pf [(.i .i64)] .bo p.1 p.2)/\(lI l)=(lI l)/\(d2+(1:Int))=d3/\True)/\(True))/\q2 d3))) /\
  ((decide (d2<(lI l)))=false ->
   ((-1:Int)=(Q7h l p.2)/\(True)))) d20
def WJ:Cx:=⟨[],[],19,[],0,[],[],[],[],false,[],[],[],[]⟩
def U2 (l:List Int) (p:(Int->Prop)×(Int->Bool)):List (Nat×LoopAnn):=[(0,⟨Unit,Int,[0,1,7,8],λe x=>[.val (.list (.i .i64)) l,.pf [(.i .i64)] .bo p.1 p.2,.val (.i .i64) ((l.length:Nat):Int),.val (.i .i64) x],λe x=>[]⟩)]
theorem U4 (d:List Int×((Int->Prop)×(Int->Bool))):gwp (WJ) (U2 d.1 d.2) Z9b 0 (Y4 [.tmp 4] (Wk d) (Ws d)) (Qq 19 (AL.can WK d))=ZD d.1 d.2:=by kernel_rfl
abbrev U1:Prop:=OkC Tryz.prog 125 X6
theorem VQ (h:∀ (l:List Int) (p:(Int->Prop)×(Int->Bool)),(l.length<=1000000/\∀ x∈l,p.1 x)->ZD l p):OkC Tryz.prog 125 X6 :=
 Qu Z0o mixed (C:=WJ) (V:=λ(d:List Int×((Int->Prop)×(Int->Bool)))=>ZD d.1 d.2) ⟨.nil,XsOk.nil,ItsOk.nil,YlOk.nil,IysOk.nil,XfOk.nil⟩ (U4) λd hp=>h d.1 d.2 hp
theorem Q5h {l:List Int}{p:Int->Bool}{k:Nat}(hk:k<l.length) (h:p l[k]=true) (hJ:(l.take k).any p=false):Q7h l p=k:=by
 have:l.findIdx? p=some k:=by rw[List.findIdx?_eq_some_iff_getElem];refine⟨hk,h,λj hj=>?_⟩;have hn:=xw.1 hJ l[j] (List.mem_take_iff_getElem.2 ⟨j,by omega,rfl⟩);simpa using hn
 simp[Q7h,this]
theorem Q71 {l:List Int}{p:Int->Bool}(hJ:l.any p=false):Q7h l p=-1:=by
 have:l.findIdx? p=none:=by rw[List.findIdx?_eq_none_iff];intro x hx;have:=xw.1 hJ x hx;simpa using this
 simp[Q7h,this]
theorem Q04 (l:List Int) (p:Int->Bool):decide (Q7h l p>=0)=l.any p:=by
 unfold Q7h;cases h:l.findIdx? p with
 |none =>
  have:=List.findIdx?_eq_none_iff.1 h;have:l.any p=false:=by rw[xw];intro x hx;simp[this x hx]
  rw[this];rfl
 |some i =>obtain⟨h1,h2,_⟩:=List.findIdx?_eq_some_iff_getElem.1 h;rw[xS.2 ⟨l[i],zl h1,h2⟩];simp
theorem VB:U1:=VQ λl p hp=>by
 unfold ZD;(try delta lI gD sT I64 Q1 rg rb zD nS);simp only[true_and,and_true,exists_eq_left',exists_const,zf,zy];refine LoopP.count l.length (λk=>(l.take k).any p.2=false) (by simp) λk bG hJ q hq=>?_;simp only[ze,Int.ofNat_lt,Qf];refine⟨λao=>?_,λbZ=>?_⟩
 .rw[Qc ao];refine⟨by omega,ao,hp.2 _ (zl ao),λhx=>?_,λhx=>⟨by omega,hq ao ?_⟩⟩
  .rw[Q5h ao hx hJ]
  .rw[ZG ao,List.any_append,hJ];simp[hx]
 .rw[zL (by omega)] at hJ;rw[Q71 hJ]
def XP:AL (List Int×((Int->Prop)×(Int->Bool))):=(.cons (.k (.list (.i .i64))) (.one (.fn [(.i .i64)] .bo)))
def Kh (d:List Int×((Int->Prop)×(Int->Bool))):Prop:=d.1.length<=1000000/\∀ x∈d.1,d.2.1 x
def XC (d:List Int×((Int->Prop)×(Int->Bool))):SV:=.val .bo (d.1.any d.2.2)
def XB (d:List Int×((Int->Prop)×(Int->Bool))):List OB:=[]
def Qw:CSp:=Wt XP Kh XC XB
def J7 (l:List Int) (p:(Int->Prop)×(Int->Bool)):Prop :=
 (l.length<=1000000/\∀ x∈l,(λ(x1:Int)=>p.1 x1) x)/\((decide ((Q7h l (λ(x1:Int)=>(p.2 x1)))>=(0:Int)))=(l.any p.2)/\(True))
def XS:Cx:=⟨[],[(125,X6)],9,[],0,[],[],[],[],false,[],[],[],[]⟩
def Kz (l:List Int) (p:(Int->Prop)×(Int->Bool)):List (Nat×LoopAnn):=[]
theorem KK (d:List Int×((Int->Prop)×(Int->Bool))):gwp (XS) (Kz d.1 d.2) c89 0 (Y4 [.tmp 4] (XC d) (XB d)) (Qq 9 (AL.can XP d))=J7 d.1 d.2:=by kernel_rfl
abbrev KB:Prop:=OkC Tryz.prog 89 Qw
theorem KF (h:∀ (l:List Int) (p:(Int->Prop)×(Int->Bool)),(l.length<=1000000/\∀ x∈l,p.1 x)->J7 l p):OkC Tryz.prog 89 Qw :=
 Qu Z61 mixed (C:=XS) (V:=λ(d:List Int×((Int->Prop)×(Int->Bool)))=>J7 d.1 d.2) ⟨(.cons VB .nil),XsOk.nil,ItsOk.nil,YlOk.nil,IysOk.nil,XfOk.nil⟩ (KK) λd hp=>h d.1 d.2 hp
theorem Zl:KB:=KF λl p hp=>by exact⟨hp,Q04 l p.2,trivial⟩
def Gm:AL (Int×Int×Int):=(.cons (.k (.i .i64)) (.cons (.ptr (.one (.k (.i .i64)))) (.one (.ptr (.one (.k (.i .i64)))))))
def Re (d:Int×Int×Int):Prop:=True
def Mh (d:Int×Int×Int):SV:=.val .bo (decide (d.1<d.2.1)||decide (d.2.2<d.1))
def Mq (d:Int×Int×Int):List OB:=[]
def UG:CSp:=Wt Gm Re Mh Mq
def VD (n:Int) (a:Int) (b:Int):Prop :=
 (((decide (n<a))||(decide (n > b)))=(decide (n<a)||decide (b<n))/\(True))
def MG:Cx:=⟨[],[],13,[],0,[],[],[],[],false,[],[],[],[]⟩
def Sv (n:Int) (a:Int) (b:Int):List (Nat×LoopAnn):=[]
theorem SH (d:Int×Int×Int):gwp (MG) (Sv d.1 d.2.1 d.2.2) Z90 0 (Y4 [.tmp 4] (Mh d) (Mq d)) (Qq 13 (AL.can Gm d))=VD d.1 d.2.1 d.2.2:=by kernel_rfl
abbrev Sz:Prop:=OkC Tryz.prog 122 UG
theorem S0 (h:∀ (n:Int) (a:Int) (b:Int),(True)->VD n a b):OkC Tryz.prog 122 UG :=
 Qu Z0t mixed (C:=MG) (V:=λ(d:Int×Int×Int)=>VD d.1 d.2.1 d.2.2) ⟨.nil,XsOk.nil,ItsOk.nil,YlOk.nil,IysOk.nil,XfOk.nil⟩ (SH) λd hp=>h d.1 d.2.1 d.2.2 hp
theorem Lz:Sz:=S0 λn a b _=>by exact⟨rfl,trivial⟩
def Hp:AL (Int×Int×List Int):=(.cons (.k (.i .i64)) (.cons (.k (.i .i64)) (.one (.k (.list (.i .i64))))))
def Ck (d:Int×Int×List Int):Prop:=d.2.2.length<=1000000
def DU (d:Int×Int×List Int):SV:=.val .bo (!(d.2.2.any λn=>decide (n<d.1)||decide (d.2.1<n)))
def B6 (d:Int×Int×List Int):List OB:=[]
def Gz:CSp:=Wt Hp Ck DU B6
def NB (a:Int) (b:Int) (l:List Int):Prop :=
 (l.length<=1000000/\∀ x∈l,(λ(x1:Int)=>True) x)/\((!(l.any (λ(x1:Int)=>(decide (x1<a)||decide (b<x1)))))=(!(l.any λn=>decide (n<a)||decide (b<n)))/\(True))
def HA:Cx:=⟨[],[(89,Qw),(122,UG)],11,[],0,[],[],[],[],false,[],[],[],[]⟩
def EP (a:Int) (b:Int) (l:List Int):List (Nat×LoopAnn):=[]
theorem FD (d:Int×Int×List Int):gwp (HA) (EP d.1 d.2.1 d.2.2) c82 0 (Y4 [.tmp 6] (DU d) (B6 d)) (Qq 11 (AL.can Hp d))=NB d.1 d.2.1 d.2.2:=by kernel_rfl
abbrev Ff:Prop:=OkC Tryz.prog 82 Gz
theorem EU (h:∀ (a:Int) (b:Int) (l:List Int),(l.length<=1000000)->NB a b l):OkC Tryz.prog 82 Gz :=
 Qu Z40 mixed (C:=HA) (V:=λ(d:Int×Int×List Int)=>NB d.1 d.2.1 d.2.2) ⟨(.cons Zl (.cons Lz .nil)),XsOk.nil,ItsOk.nil,YlOk.nil,IysOk.nil,XfOk.nil⟩ (FD) λd hp=>h d.1 d.2.1 d.2.2 hp
theorem Eu:Ff:=EU λa b l h=>by exact⟨⟨h,λ_ _=>trivial⟩,rfl,trivial⟩
def TB:AL (Int×List Int):=(.one (.agg (.cons (.k (.i .i64)) (.one (.k (.list (.i .i64)))))))
def Fp (d:Int×List Int):Prop:=d.2.length<=1000000
def HV (d:Int×List Int):SV:=.val (.i .i64) (Xr d.1 d.2)
def Hx (d:Int×List Int):List OB:=[]
def N_:CSp:=Wt TB Fp HV Hx
def UA (hk:Int) (lw:List Int):Prop :=
 ([hk].length<=1000000)/\((!(!([hk].any λn=>decide (n<(1:Int))||decide ((24:Int)<n))))=true ->
  ((2:Int)=(Xr hk lw)/\(True))) /\
 ((!(!([hk].any λn=>decide (n<(1:Int))||decide ((24:Int)<n))))=false ->
  ((decide ((lI lw) > (96:Int)))=true ->
   ((5:Int)=(Xr hk lw)/\(True))) /\
  ((decide ((lI lw) > (96:Int)))=false ->
   (((lI lw)==(0:Int))=true ->
    ((7:Int)=(Xr hk lw)/\(True))) /\
   (((lI lw)==(0:Int))=false ->
    (I64 (hk-(1:Int)))/\(lw.length<=1000000)/\((!(!(lw.any λn=>decide (n<(0:Int))||decide ((hk-(1:Int))<n))))=true ->
     ((2:Int)=(Xr hk lw)/\(True))) /\
    ((!(!(lw.any λn=>decide (n<(0:Int))||decide ((hk-(1:Int))<n))))=false ->
     ((0:Int)=(Xr hk lw)/\(True))))))
def Tr:Cx:=⟨[(3,(.i .i64))],[(82,Gz)],27,[],0,[],[],[],[],false,[],[],[],[]⟩
def IN (hk:Int) (lw:List Int):List (Nat×LoopAnn):=[]
theorem Ij (d:Int×List Int):gwp (Tr) (IN d.1 d.2) c35 0 (Y4 [.tmp 2] (HV d) (Hx d)) (Qq 27 (AL.can TB d))=UA d.1 d.2:=by kernel_rfl
abbrev Oa:Prop:=OkC Tryz.prog 35 N_
theorem FX (h:∀ (hk:Int) (lw:List Int),(lw.length<=1000000)->UA hk lw):OkC Tryz.prog 35 N_ :=
 Qu Z7b mixed (C:=Tr) (V:=λ(d:Int×List Int)=>UA d.1 d.2) ⟨(.cons Eu .nil),XsOk.nil,ItsOk.nil,YlOk.nil,IysOk.nil,XfOk.nil⟩ (Ij) λd hp=>h d.1 d.2 hp
theorem nI (n a b:Int):(!inI n a b)=(decide (n<a)||decide (b<n)):=by simp only[inI,Bool.not_and];by_cases h1:a<=n<;>by_cases h2:n<=b<;>simp[h1,h2]<;>omega
theorem T3:Oa:=FX λhk lw hl=>by
 unfold UA;(try delta lI gD sT I64 Q1 rg rb zD nS);simp only[and_true,zf,zy,zU,ne_eq,zN,gt_iff_lt,Bool.not_not];simp only[<-nI];refine⟨by simp,λh1=>by simp at h1;simp[Xr,h1],λh1=>⟨λh2=>?_,λh2=>⟨λh3=>?_,λh3=>?_⟩⟩⟩;all_goals simp only[List.any_cons,List.any_nil,xV,xq] at h1
 .have:96<lw.length:=by omega
  simp[Xr,h1,this]
 .have h3:lw.length=0:=by omega
  simp[Xr,h1,h3]
 have gK:¬ 96<lw.length:=by omega
 have fz:¬ lw.length=0:=by omega
 have hi:1<=hk/\hk<=24:=by simpa [inI] using h1
 have nY:Xr hk lw=if lw.any (λx=>!inI x 0 (hk-1)) then 2 else 0:=by simp only[Xr,h1,gK,fz];simp
 rw[nY];simp only[Qf];refine⟨by omega,by omega,λh=>by rw[z7 h],λh=>by rw[h];rfl⟩
def N0:AL (Int×Int×Int):=(.cons (.k (.i .i64)) (.cons (.ptr (.one (.k (.i .i64)))) (.one (.ptr (.one (.k (.i .i64)))))))
def BM (d:Int×Int×Int):Prop:=True
def Ui (d:Int×Int×Int):SV:=.val .bo (decide (d.1<d.2.1)||decide (d.2.2<d.1))
def Uq (d:Int×Int×Int):List OB:=[]
def KP:CSp:=Wt N0 BM Ui Uq
def Ki (n:Int) (a:Int) (b:Int):Prop :=
 (((decide (n<a))||(decide (n > b)))=(decide (n<a)||decide (b<n))/\(True))
def N9:Cx:=⟨[],[],13,[],0,[],[],[],[],false,[],[],[],[]⟩
def Pa (n:Int) (a:Int) (b:Int):List (Nat×LoopAnn):=[]
theorem Pu (d:Int×Int×Int):gwp (N9) (Pa d.1 d.2.1 d.2.2) Z8i 0 (Y4 [.tmp 4] (Ui d) (Uq d)) (Qq 13 (AL.can N0 d))=Ki d.1 d.2.1 d.2.2:=by kernel_rfl
abbrev PA:Prop:=OkC Tryz.prog 123 KP
theorem Pn (h:∀ (n:Int) (a:Int) (b:Int),(True)->Ki n a b):OkC Tryz.prog 123 KP :=
 Qu Z08 mixed (C:=N9) (V:=λ(d:Int×Int×Int)=>Ki d.1 d.2.1 d.2.2) ⟨.nil,XsOk.nil,ItsOk.nil,YlOk.nil,IysOk.nil,XfOk.nil⟩ (Pu) λd hp=>h d.1 d.2.1 d.2.2 hp
theorem PN:PA:=Pn λn a b _=>by exact⟨rfl,trivial⟩
def GG:AL (Int×Int×List Int):=(.cons (.k (.i .i64)) (.cons (.k (.i .i64)) (.one (.k (.list (.i .i64))))))
def TW (d:Int×Int×List Int):Prop:=d.2.2.length<=1000000
def Ma (d:Int×Int×List Int):SV:=.val .bo (!(d.2.2.any λn=>decide (n<d.1)||decide (d.2.1<n)))
def Mc (d:Int×Int×List Int):List OB:=[]
def UJ:CSp:=Wt GG TW Ma Mc
def U0 (a:Int) (b:Int) (l:List Int):Prop :=
 (l.length<=1000000/\∀ x∈l,(λ(x1:Int)=>True) x)/\((!(l.any (λ(x1:Int)=>(decide (x1<a)||decide (b<x1)))))=(!(l.any λn=>decide (n<a)||decide (b<n)))/\(True))
def MQ:Cx:=⟨[],[(89,Qw),(123,KP)],11,[],0,[],[],[],[],false,[],[],[],[]⟩
def Sa (a:Int) (b:Int) (l:List Int):List (Nat×LoopAnn):=[]
theorem SX (d:Int×Int×List Int):gwp (MQ) (Sa d.1 d.2.1 d.2.2) c83 0 (Y4 [.tmp 6] (Ma d) (Mc d)) (Qq 11 (AL.can GG d))=U0 d.1 d.2.1 d.2.2:=by kernel_rfl
abbrev SJ:Prop:=OkC Tryz.prog 83 UJ
theorem LK (h:∀ (a:Int) (b:Int) (l:List Int),(l.length<=1000000)->U0 a b l):OkC Tryz.prog 83 UJ :=
 Qu Z4b mixed (C:=MQ) (V:=λ(d:Int×Int×List Int)=>U0 d.1 d.2.1 d.2.2) ⟨(.cons Zl (.cons PN .nil)),XsOk.nil,ItsOk.nil,YlOk.nil,IysOk.nil,XfOk.nil⟩ (SX) λd hp=>h d.1 d.2.1 d.2.2 hp
theorem S8:SJ:=LK λa b l h=>by exact⟨⟨h,λ_ _=>trivial⟩,rfl,trivial⟩
def DC:AL (Int×List Int):=(.one (.agg (.cons (.k (.i .i64)) (.one (.k (.list (.i .i64)))))))
def Sm (d:Int×List Int):Prop:=d.2.length<=1000000
def GC (d:Int×List Int):SV:=.val (.i .i64) (Q4 d.1 d.2)
def Gg (d:Int×List Int):List OB:=[]
def Vr:CSp:=Wt DC Sm GC Gg
def Kr (hd:Int) (rows:List Int):Prop :=
 ([hd].length<=1000000)/\((!(!([hd].any λn=>decide (n<(1:Int))||decide ((24:Int)<n))))=true ->
  ((2:Int)=(Q4 hd rows)/\(True))) /\
 ((!(!([hd].any λn=>decide (n<(1:Int))||decide ((24:Int)<n))))=false ->
  ((decide ((lI rows) > (60:Int)))=true ->
   ((5:Int)=(Q4 hd rows)/\(True))) /\
  ((decide ((lI rows) > (60:Int)))=false ->
   (((lI rows)==(0:Int))=true ->
    ((7:Int)=(Q4 hd rows)/\(True))) /\
   (((lI rows)==(0:Int))=false ->
    (0<=hd)/\(I64 (YN .i64 (1:Int) hd))/\(I64 ((YN .i64 (1:Int) hd)-(1:Int)))/\(rows.length<=1000000)/\((!(!(rows.any λn=>decide (n<(0:Int))||decide (((YN .i64 (1:Int) hd)-(1:Int))<n))))=true ->
     ((2:Int)=(Q4 hd rows)/\(True))) /\
    ((!(!(rows.any λn=>decide (n<(0:Int))||decide (((YN .i64 (1:Int) hd)-(1:Int))<n))))=false ->
     ((0:Int)=(Q4 hd rows)/\(True))))))
def Dw:Cx:=⟨[(3,(.i .i64))],[(83,UJ)],28,[],0,[],[],[],[],false,[],[],[],[]⟩
def CS (hd:Int) (rows:List Int):List (Nat×LoopAnn):=[]
theorem CQ (d:Int×List Int):gwp (Dw) (CS d.1 d.2) c36 0 (Y4 [.tmp 2] (GC d) (Gg d)) (Qq 28 (AL.can DC d))=Kr d.1 d.2:=by kernel_rfl
abbrev Cc:Prop:=OkC Tryz.prog 36 Vr
theorem CY (h:∀ (hd:Int) (rows:List Int),(rows.length<=1000000)->Kr hd rows):OkC Tryz.prog 36 Vr :=
 Qu Z42 mixed (C:=Dw) (V:=λ(d:Int×List Int)=>Kr d.1 d.2) ⟨(.cons S8 .nil),XsOk.nil,ItsOk.nil,YlOk.nil,IysOk.nil,XfOk.nil⟩ (CQ) λd hp=>h d.1 d.2 hp
theorem Z2j {h:Int}(h1:0<=h) (h2:h<=62):YN .i64 1 h=2 ^ h.toNat:=by obtain⟨n,rfl⟩:=zA h1;have:Nat.min n 64=n:=wq (by omega);simp only[YN,ze,IntKind.bits,this,Int.one_mul]
theorem L0 {h:Int}(h1:1<=h) (h2:h<=24):(2:Int)<=2 ^ h.toNat/\(2:Int) ^ h.toNat<=16777216:=by
 obtain⟨n,rfl⟩:=zA (show 0<=h by omega);have a1:2 ^ 1<=2 ^ n:=Nat.pow_le_pow_right (by omega) (by omega);have a2:2 ^ n<=2 ^ 24:=Nat.pow_le_pow_right (by omega) (by omega);simp only[ze];have e:((2:Int) ^ n)=((2 ^ n:Nat):Int):=by norm_cast
 rw[e];omega
theorem DJ:Cc:=CY λhd rows hl=>by
 unfold Kr;(try delta lI gD sT I64 Q1 rg rb zD nS);simp only[and_true,zf,zy,zU,ne_eq,zN,gt_iff_lt,Bool.not_not];simp only[<-nI];refine⟨by simp,λh1=>by simp at h1;simp[Q4,h1],λh1=>⟨λh2=>?_,λh2=>⟨λh3=>?_,λh3=>?_⟩⟩⟩;all_goals simp only[List.any_cons,List.any_nil,xV,xq] at h1
 .have:60<rows.length:=by omega
  simp[Q4,h1,this]
 .have h3:rows.length=0:=by omega
  simp[Q4,h1,h3]
 have gK:¬ 60<rows.length:=by omega
 have fz:¬ rows.length=0:=by omega
 have hi:1<=hd/\hd<=24:=by simpa [inI] using h1
 have hp:=L0 hi.1 hi.2;have nY:Q4 hd rows=if rows.any (λx=>!inI x 0 (2 ^ hd.toNat-1)) then 2 else 0:=by simp only[Q4,h1,gK,fz];simp
 rw[nY];simp only[Qf,Z2j (show 0<=hd by omega) (by omega)];refine⟨by omega,by omega,by omega,by omega,λh=>by rw[z7 h],λh=>by rw[h];rfl⟩
def Nr:AL (Int×Int×Int):=(.cons (.k (.i .i64)) (.cons (.ptr (.one (.k (.i .i64)))) (.one (.ptr (.one (.k (.i .i64)))))))
def BP (d:Int×Int×Int):Prop:=True
def Uh (d:Int×Int×Int):SV:=.val .bo (decide (d.1<d.2.1)||decide (d.2.2<d.1))
def Up (d:Int×Int×Int):List OB:=[]
def V0:CSp:=Wt Nr BP Uh Up
def Kd (n:Int) (a:Int) (b:Int):Prop :=
 (((decide (n<a))||(decide (n > b)))=(decide (n<a)||decide (b<n))/\(True))
def N7:Cx:=⟨[],[],13,[],0,[],[],[],[],false,[],[],[],[]⟩
def Pk (n:Int) (a:Int) (b:Int):List (Nat×LoopAnn):=[]
theorem Pe (d:Int×Int×Int):gwp (N7) (Pk d.1 d.2.1 d.2.2) c90 0 (Y4 [.tmp 4] (Uh d) (Up d)) (Qq 13 (AL.can Nr d))=Kd d.1 d.2.1 d.2.2:=by kernel_rfl
abbrev Py:Prop:=OkC Tryz.prog 90 V0
theorem PR (h:∀ (n:Int) (a:Int) (b:Int),(True)->Kd n a b):OkC Tryz.prog 90 V0 :=
 Qu Z6v mixed (C:=N7) (V:=λ(d:Int×Int×Int)=>Kd d.1 d.2.1 d.2.2) ⟨.nil,XsOk.nil,ItsOk.nil,YlOk.nil,IysOk.nil,XfOk.nil⟩ (Pe) λd hp=>h d.1 d.2.1 d.2.2 hp
theorem PQ:Py:=PR λn a b _=>by exact⟨rfl,trivial⟩
def GJ:AL (Int×Int×List Int):=(.cons (.k (.i .i64)) (.cons (.k (.i .i64)) (.one (.k (.list (.i .i64))))))
def Rj (d:Int×Int×List Int):Prop:=d.2.2.length<=1000000
def Mp (d:Int×Int×List Int):SV:=.val .bo (!(d.2.2.any λn=>decide (n<d.1)||decide (d.2.1<n)))
def Mj (d:Int×Int×List Int):List OB:=[]
def Y6:CSp:=Wt GJ Rj Mp Mj
def U7 (a:Int) (b:Int) (l:List Int):Prop :=
 (l.length<=1000000/\∀ x∈l,(λ(x1:Int)=>True) x)/\((!(l.any (λ(x1:Int)=>(decide (x1<a)||decide (b<x1)))))=(!(l.any λn=>decide (n<a)||decide (b<n)))/\(True))
def MP:Cx:=⟨[],[(89,Qw),(90,V0)],11,[],0,[],[],[],[],false,[],[],[],[]⟩
def LD (a:Int) (b:Int) (l:List Int):List (Nat×LoopAnn):=[]
theorem SP (d:Int×Int×List Int):gwp (MP) (LD d.1 d.2.1 d.2.2) c40 0 (Y4 [.tmp 6] (Mp d) (Mj d)) (Qq 11 (AL.can GJ d))=U7 d.1 d.2.1 d.2.2:=by kernel_rfl
abbrev LJ:Prop:=OkC Tryz.prog 40 Y6
theorem SN (h:∀ (a:Int) (b:Int) (l:List Int),(l.length<=1000000)->U7 a b l):OkC Tryz.prog 40 Y6 :=
 Qu Z7d mixed (C:=MP) (V:=λ(d:Int×Int×List Int)=>U7 d.1 d.2.1 d.2.2) ⟨(.cons Zl (.cons PQ .nil)),XsOk.nil,ItsOk.nil,YlOk.nil,IysOk.nil,XfOk.nil⟩ (SP) λd hp=>h d.1 d.2.1 d.2.2 hp
theorem VF:LJ:=SN λa b l h=>by exact⟨⟨h,λ_ _=>trivial⟩,rfl,trivial⟩
def P4:AL (Int):=(.one (.k (.i .i64)))
def A9 (d:Int):Prop:=True
def Dj (d:Int):SV:=.val (.i .i64) (De d)
def Dp (d:Int):List OB:=[]
def GO:CSp:=Wt P4 A9 Dj Dp
def Vs (k:Int):Prop :=
 ((k==(2:Int))=true ->
  ((1:Int)=(De k)/\(True))) /\
 ((k==(2:Int))=false ->
  ((k==(5:Int))=true ->
   ((2:Int)=(De k)/\(True))) /\
  ((k==(5:Int))=false ->
   ((0:Int)=(De k)/\(True))))
def BR:Cx:=⟨[],[],8,[],0,[],[],[],[],false,[],[],[],[]⟩
def Ei (k:Int):List (Nat×LoopAnn):=[]
theorem EY (d:Int):gwp (BR) (Ei d) c80 0 (Y4 [.tmp 2] (Dj d) (Dp d)) (Qq 8 (AL.can P4 d))=Vs d:=by kernel_rfl
abbrev Ej:Prop:=OkC Tryz.prog 80 GO
theorem E3 (h:∀ (k:Int),(True)->Vs k):OkC Tryz.prog 80 GO :=
 Qu Z77 mixed (C:=BR) (V:=λ(d:Int)=>Vs d) ⟨.nil,XsOk.nil,ItsOk.nil,YlOk.nil,IysOk.nil,XfOk.nil⟩ (EY) λd hp=>h d hp
theorem FE:Ej:=E3 λk _=>by unfold Vs;(try delta lI gD sT I64 Q1 rg rb zD nS);unfold De;simp only[zU,zN,ne_eq];refine⟨λh=>?_,λh=>⟨λh2=>?_,λh2=>?_⟩⟩<;>simp[*]
def KD:AL ((Int×Int×Int×Int×Bool)×Int×Int×Int×Int×Bool):=(.cons (.agg (.cons (.k (.i .i64)) (.cons (.k (.i .i64)) (.cons (.k (.i .i64)) (.cons (.k (.i .i64)) (.one (.k .bo))))))) (.one (.agg (.cons (.k (.i .i64)) (.cons (.k (.i .i64)) (.cons (.k (.i .i64)) (.cons (.k (.i .i64)) (.one (.k .bo)))))))))
def Mt (d:(Int×Int×Int×Int×Bool)×Int×Int×Int×Int×Bool):Prop:=True
def K4 (d:(Int×Int×Int×Int×Bool)×Int×Int×Int×Int×Bool):SV:=.val (.i .i64) (De d.1.1-De d.2.1)
def K8 (d:(Int×Int×Int×Int×Bool)×Int×Int×Int×Int×Bool):List OB:=[]
def Jm:CSp:=Wt KD Mt K4 K8
def Xb (dk:Int) (dp:Int) (dh:Int) (dw:Int) (du:Bool) (ek:Int) (ep:Int) (eh:Int) (ew:Int) (eu:Bool):Prop :=
 (True)/\(True)/\(I64 ((De dk)-(De ek)))/\(((De dk)-(De ek))=(De dk-De ek)/\(True))
def KM:Cx:=⟨[],[(80,GO)],12,[],0,[],[],[],[],false,[],[],[],[]⟩
def Gx (dk:Int) (dp:Int) (dh:Int) (dw:Int) (du:Bool) (ek:Int) (ep:Int) (eh:Int) (ew:Int) (eu:Bool):List (Nat×LoopAnn):=[]
theorem MD (d:(Int×Int×Int×Int×Bool)×Int×Int×Int×Int×Bool):gwp (KM) (Gx d.1.1 d.1.2.1 d.1.2.2.1 d.1.2.2.2.1 d.1.2.2.2.2 d.2.1 d.2.2.1 d.2.2.2.1 d.2.2.2.2.1 d.2.2.2.2.2) c79 0 (Y4 [.tmp 4] (K4 d) (K8 d)) (Qq 12 (AL.can KD d))=Xb d.1.1 d.1.2.1 d.1.2.2.1 d.1.2.2.2.1 d.1.2.2.2.2 d.2.1 d.2.2.1 d.2.2.2.1 d.2.2.2.2.1 d.2.2.2.2.2:=by kernel_rfl
abbrev G8:Prop:=OkC Tryz.prog 79 Jm
theorem ME (h:∀ (dk:Int) (dp:Int) (dh:Int) (dw:Int) (du:Bool) (ek:Int) (ep:Int) (eh:Int) (ew:Int) (eu:Bool),(True)->Xb dk dp dh dw du ek ep eh ew eu):OkC Tryz.prog 79 Jm :=
 Qu Z69 mixed (C:=KM) (V:=λ(d:(Int×Int×Int×Int×Bool)×Int×Int×Int×Int×Bool)=>Xb d.1.1 d.1.2.1 d.1.2.2.1 d.1.2.2.2.1 d.1.2.2.2.2 d.2.1 d.2.2.1 d.2.2.2.1 d.2.2.2.2.1 d.2.2.2.2.2) ⟨(.cons FE .nil),XsOk.nil,ItsOk.nil,YlOk.nil,IysOk.nil,XfOk.nil⟩ (MD) λd hp=>h d.1.1 d.1.2.1 d.1.2.2.1 d.1.2.2.2.1 d.1.2.2.2.2 d.2.1 d.2.2.1 d.2.2.2.1 d.2.2.2.2.1 d.2.2.2.2.2 hp
theorem WD:G8:=ME λdk dp dh dw du ek ep eh ew eu _=>by
 unfold Xb;(try delta lI gD sT I64 Q1 rg rb zD nS);have h:∀ k,0<=De k/\De k<=2:=λk=>by unfold De;split<;>(try split)<;>omega
 have h1:=h dk;have h2:=h ek;rw[Qf];and_intros<;>first|omega|rfl|trivial
def Z9:AL ((List (Int×Int×Int×Int×Bool))×((Int×Int×Int×Int×Bool->Prop)×(Int×Int×Int×Int×Bool->Bool))):=(.cons (.k (.list (.pair (.i .i64) (.pair (.i .i64) (.pair (.i .i64) (.pair (.i .i64) .bo)))))) (.one (.fn [(.pair (.i .i64) (.pair (.i .i64) (.pair (.i .i64) (.pair (.i .i64) .bo))))] .bo)))
def JA (d:(List (Int×Int×Int×Int×Bool))×((Int×Int×Int×Int×Bool->Prop)×(Int×Int×Int×Int×Bool->Bool))):Prop:=d.1.length<=1000000/\∀ x∈d.1,d.2.1 x
def Z3 (d:(List (Int×Int×Int×Int×Bool))×((Int×Int×Int×Int×Bool->Prop)×(Int×Int×Int×Int×Bool->Bool))):SV:=.val (.i .i64) (Ek d.1 d.2.2)
def Z1 (d:(List (Int×Int×Int×Int×Bool))×((Int×Int×Int×Int×Bool->Prop)×(Int×Int×Int×Int×Bool->Bool))):List OB:=[]
def Qv:CSp:=Wt Z9 JA Z3 Z1
def Qh (l:List (Int×Int×Int×Int×Bool)) (p:(Int×Int×Int×Int×Bool->Prop)×(Int×Int×Int×Int×Bool->Bool)):Prop :=
 ∃ (e2:Unit) (d20:Int),((l=l/\(SV.pf [(.pair (.i .i64) (.pair (.i .i64) (.pair (.i .i64) (.pair (.i .i64) .bo))))] .bo p.1 p.2=SV.pf [(.pair (.i .i64) (.pair (.i .i64) (.pair (.i .i64) (.pair (.i .i64) .bo))))] .bo p.1 p.2)/\(lI l)=(lI l)/\(0:Int)=d20/\True)/\(True)) /\
 LoopP (λ(d2:Int) (q2:(Int)->Prop) =>
  ((decide (d2<(lI l)))=true ->
   (0<=d2)/\(d2<l.length)/\(p.1 ((gD l d2 zD).1,((gD l d2 zD).2.1,((gD l d2 zD).2.2.1,((gD l d2 zD).2.2.2.1,(gD l d2 zD).2.2.2.2)))))/\((p.2 ((gD l d2 zD).1,((gD l d2 zD).2.1,((gD l d2 zD).2.2.1,((gD l d2 zD).2.2.2.1,(gD l d2 zD).2.2.2.2)))))=true ->
    (d2=(Ek l p.2)/\(True))) /\
   ((p.2 ((gD l d2 zD).1,((gD l d2 zD).2.1,((gD l d2 zD).2.2.1,((gD l d2 zD).2.2.2.1,(gD l d2 zD).2.2.2.2)))))=false ->
    (I64 (d2+(1:Int)))/\(∃ d3:Int,((l=l/\(SV.pf [(.pair (.i .i64) (.pair (.i .i64) (.pair (.i .i64) (.pair (.i .i64) .bo))))] .bo p.1 p.2=SV.pf [(.pair (.i .i64) (.pair (.i .i64) (.pair (.i .i64) (.pair (.i .i64) .bo))))] .bo p.1 p.2)/\(lI l)=(lI l)/\(d2+(1:Int))=d3/\True)/\(True))/\q2 d3))) /\
  ((decide (d2<(lI l)))=false ->
   ((-1:Int)=(Ek l p.2)/\(True)))) d20
def Z8:Cx:=⟨[],[],19,[],0,[],[],[],[],false,[],[],[],[]⟩
def X1 (l:List (Int×Int×Int×Int×Bool)) (p:(Int×Int×Int×Int×Bool->Prop)×(Int×Int×Int×Int×Bool->Bool)):List (Nat×LoopAnn):=[(0,⟨Unit,Int,[0,1,7,8],λe x=>[.val (.list (.pair (.i .i64) (.pair (.i .i64) (.pair (.i .i64) (.pair (.i .i64) .bo))))) l,.pf [(.pair (.i .i64) (.pair (.i .i64) (.pair (.i .i64) (.pair (.i .i64) .bo))))] .bo p.1 p.2,.val (.i .i64) ((l.length:Nat):Int),.val (.i .i64) x],λe x=>[]⟩)]
theorem JN (d:(List (Int×Int×Int×Int×Bool))×((Int×Int×Int×Int×Bool->Prop)×(Int×Int×Int×Int×Bool->Bool))):gwp (Z8) (X1 d.1 d.2) J04 0 (Y4 [.tmp 4] (Z3 d) (Z1 d)) (Qq 19 (AL.can Z9 d))=Qh d.1 d.2:=by kernel_rfl
abbrev JO:Prop:=OkC Tryz.prog 142 Qv
theorem JZ (h:∀ (l:List (Int×Int×Int×Int×Bool)) (p:(Int×Int×Int×Int×Bool->Prop)×(Int×Int×Int×Int×Bool->Bool)),(l.length<=1000000/\∀ x∈l,p.1 x)->Qh l p):OkC Tryz.prog 142 Qv :=
 Qu Q9w mixed (C:=Z8) (V:=λ(d:(List (Int×Int×Int×Int×Bool))×((Int×Int×Int×Int×Bool->Prop)×(Int×Int×Int×Int×Bool->Bool)))=>Qh d.1 d.2) ⟨.nil,XsOk.nil,ItsOk.nil,YlOk.nil,IysOk.nil,XfOk.nil⟩ (JN) λd hp=>h d.1 d.2 hp
theorem JQ:JO:=JZ λl p hp=>by
 unfold Qh;(try delta lI gD sT I64 Q1 rg rb zD nS);simp only[true_and,and_true,exists_eq_left',exists_const,zf,zy];refine LoopP.count l.length (λk=>(l.take k).any p.2=false) (by simp) λk bG hJ q hq=>?_;simp only[ze,Int.ofNat_lt,Qf];refine⟨λao=>?_,λbZ=>?_⟩
 .have ao:k<l.length:=by omega
  rw[Qc ao];refine⟨by omega,by omega,hp.2 _ (zl ao),λhx=>?_,λhx=>⟨by omega,hq ao ?_⟩⟩
  .rw[SF ao hx hJ]
  .rw[ZG ao,List.any_append,hJ];simp[hx]
 .rw[zL (by omega)] at hJ;rw[BW hJ]
def QS:AL ((List (Int×Int×Int×Int×Bool))×((Int×Int×Int×Int×Bool->Prop)×(Int×Int×Int×Int×Bool->Bool))):=(.cons (.k (.list (.pair (.i .i64) (.pair (.i .i64) (.pair (.i .i64) (.pair (.i .i64) .bo)))))) (.one (.fn [(.pair (.i .i64) (.pair (.i .i64) (.pair (.i .i64) (.pair (.i .i64) .bo))))] .bo)))
def Jk (d:(List (Int×Int×Int×Int×Bool))×((Int×Int×Int×Int×Bool->Prop)×(Int×Int×Int×Int×Bool->Bool))):Prop:=d.1.length<=1000000/\∀ x∈d.1,d.2.1 x
def QO (d:(List (Int×Int×Int×Int×Bool))×((Int×Int×Int×Int×Bool->Prop)×(Int×Int×Int×Int×Bool->Bool))):SV:=.val .bo (d.1.any d.2.2)
def QP (d:(List (Int×Int×Int×Int×Bool))×((Int×Int×Int×Int×Bool->Prop)×(Int×Int×Int×Int×Bool->Bool))):List OB:=[]
def Qr:CSp:=Wt QS Jk QO QP
def Qa (l:List (Int×Int×Int×Int×Bool)) (p:(Int×Int×Int×Int×Bool->Prop)×(Int×Int×Int×Int×Bool->Bool)):Prop :=
 (l.length<=1000000/\∀ x∈l,(λ(x1:Int×Int×Int×Int×Bool)=>p.1 (x1.1,(x1.2.1,(x1.2.2.1,(x1.2.2.2.1,x1.2.2.2.2))))) x)/\((decide ((Ek l (λ(x1:Int×Int×Int×Int×Bool)=>(p.2 (x1.1,(x1.2.1,(x1.2.2.1,(x1.2.2.2.1,x1.2.2.2.2)))))))>=(0:Int)))=(l.any p.2)/\(True))
def QT:Cx:=⟨[],[(142,Qv)],9,[],0,[],[],[],[],false,[],[],[],[]⟩
def Jq (l:List (Int×Int×Int×Int×Bool)) (p:(Int×Int×Int×Int×Bool->Prop)×(Int×Int×Int×Int×Bool->Bool)):List (Nat×LoopAnn):=[]
theorem Js (d:(List (Int×Int×Int×Int×Bool))×((Int×Int×Int×Int×Bool->Prop)×(Int×Int×Int×Int×Bool->Bool))):gwp (QT) (Jq d.1 d.2) Z9g 0 (Y4 [.tmp 4] (QO d) (QP d)) (Qq 9 (AL.can QS d))=Qa d.1 d.2:=by kernel_rfl
abbrev Jo:Prop:=OkC Tryz.prog 115 Qr
theorem Jp (h:∀ (l:List (Int×Int×Int×Int×Bool)) (p:(Int×Int×Int×Int×Bool->Prop)×(Int×Int×Int×Int×Bool->Bool)),(l.length<=1000000/\∀ x∈l,p.1 x)->Qa l p):OkC Tryz.prog 115 Qr :=
 Qu Z03 mixed (C:=QT) (V:=λ(d:(List (Int×Int×Int×Int×Bool))×((Int×Int×Int×Int×Bool->Prop)×(Int×Int×Int×Int×Bool->Bool)))=>Qa d.1 d.2) ⟨(.cons JQ .nil),XsOk.nil,ItsOk.nil,YlOk.nil,IysOk.nil,XfOk.nil⟩ (Js) λd hp=>h d.1 d.2 hp
theorem Jr:Jo:=Jp λl p hp=>by simp only[Qa];exact⟨hp,EX l p.2,trivial⟩
def Zq:AL (Unit):=(.one .nilS)
def Xi (d:Unit):Prop:=True
def Zk (d:Unit):SV:=.lst 0
def Zj (d:Unit):List OB:=[.lst 36 (.pair (.i .i64) (.pair (.i .i64) (.pair (.i .i64) (.pair (.i .i64) .bo)))) ([]:List Dmg) true]
def Qn:CSp:=Wt Zq Xi Zk Zj
def Ql :Prop :=
 (True/\((([]:List Dmg)=[]/\true=true)/\True))
def Zp:Cx:=⟨[],[],8,[3000004],0,[],[],[],[],false,[],[],[4],[]⟩
def Xn :List (Nat×LoopAnn):=[]
theorem Xp (d:Unit):gwp (Zp) (Xn ) c77 0 (Y4 [.tmp 2] (Zk d) (Zj d)) (Qq 8 (AL.can Zq d))=Ql :=by kernel_rfl
abbrev Xm:Prop:=OkC Tryz.prog 77 Qn
theorem Xq (h:(True)->Ql ):OkC Tryz.prog 77 Qn :=
 Qu Z2i mixed (C:=Zp) (V:=λ(d:Unit)=>Ql ) ⟨.nil,XsOk.nil,ItsOk.nil,YlOk.nil,IysOk.nil,XfOk.nil⟩ (Xp) λd hp=>h  hp
theorem Zo:Xm:=Xq λ_=>by unfold Ql;(try delta lI gD sT I64 Q1 rg rb zD nS);and_intros<;>first|rfl|trivial
def Q_:AL (List (Int×Int×Int×Int×Bool)):=(.one (.k (.list (.pair (.i .i64) (.pair (.i .i64) (.pair (.i .i64) (.pair (.i .i64) .bo)))))))
def Jt (d:List (Int×Int×Int×Int×Bool)):Prop:=d≠[]/\d.length<=110
def QV (d:List (Int×Int×Int×Int×Bool)):SV:=.lst 0
def QX (d:List (Int×Int×Int×Int×Bool)):List OB:=[.lst 36 (.pair (.i .i64) (.pair (.i .i64) (.pair (.i .i64) (.pair (.i .i64) .bo)))) d false]
def Qg:CSp:=Wt Q_ Jt QV QX
def Qd (l:List (Int×Int×Int×Int×Bool)):Prop :=
 (l≠[])/\(false=true ->
  (True/\((l=[]/\false=true)/\True))) /\
 (false=false ->
  (((List.length ([]:List (Int×Int×Int×Int×Bool)))+l.length)*40<=70368744177664)/\(True/\(((([]:List (Int×Int×Int×Int×Bool))++l)=l/\(l.isEmpty&&false)=false)/\True)))
def Z5:Cx:=⟨[(36,(.pair (.i .i64) (.pair (.i .i64) (.pair (.i .i64) (.pair (.i .i64) .bo)))))],[],8,[],0,[],[],[],[],false,[],[],[],[]⟩
def JG (l:List (Int×Int×Int×Int×Bool)):List (Nat×LoopAnn):=[]
theorem JE (d:List (Int×Int×Int×Int×Bool)):gwp (Z5) (JG d) c77 0 (Y4 [.tmp 2] (QV d) (QX d)) (Qq 8 (AL.can Q_ d))=Qd d:=by kernel_rfl
abbrev JB:Prop:=OkC Tryz.prog 77 Qg
theorem JD (h:∀ (l:List (Int×Int×Int×Int×Bool)),(l≠[]/\l.length<=110)->Qd l):OkC Tryz.prog 77 Qg :=
 Qu Z2i mixed (C:=Z5) (V:=λ(d:List (Int×Int×Int×Int×Bool))=>Qd d) ⟨.nil,XsOk.nil,ItsOk.nil,YlOk.nil,IysOk.nil,XfOk.nil⟩ (JE) λd hp=>h d hp
theorem Z6:JB:=JD λl h=>by unfold Qd;(try delta lI gD sT I64 Q1 rg rb zD nS);refine⟨h.1,λh=>(by cases h),λ_=>⟨by have:=h.2;simp only[List.length_nil];omega,?_⟩⟩;and_intros<;>first|rfl|trivial|simp
def Uk:AL (Int×List Int×Int×List Int):=(.one (.agg (.cons (.k (.i .i64)) (.cons (.k (.list (.i .i64))) (.cons (.k (.i .i64)) (.one (.k (.list (.i .i64)))))))))
def Bv (d:Int×List Int×Int×List Int):Prop:=d.2.1.length<=110/\d.2.2.2.length<=110
def VA (d:Int×List Int×Int×List Int):SV:=.val (.i .i64) (Q6 d.1 d.2.1 d.2.2.1 d.2.2.2)
def U6 (d:Int×List Int×Int×List Int):List OB:=[]
def WT:CSp:=Wt Uk Bv VA U6
def Wn (hk:Int) (lw:List Int) (hd:Int) (rows:List Int):Prop :=
 (lw.length<=1000000)/\(((Xr hk lw) != (0:Int))=true ->
  ((Xr hk lw)=(Q6 hk lw hd rows)/\(True))) /\
 (((Xr hk lw) != (0:Int))=false ->
  (rows.length<=1000000)/\(((Q4 hd rows) != (0:Int))=true ->
   ((Q4 hd rows)=(Q6 hk lw hd rows)/\(True))) /\
  (((Q4 hd rows) != (0:Int))=false ->
   ((hk != hd)=true ->
    ((4:Int)=(Q6 hk lw hd rows)/\(True))) /\
   ((hk != hd)=false ->
    ((0:Int)=(Q6 hk lw hd rows)/\(True)))))
def UB:Cx:=⟨[],[(35,N_),(36,Vr)],24,[],0,[],[],[],[],false,[],[],[],[]⟩
def P3 (hk:Int) (lw:List Int) (hd:Int) (rows:List Int):List (Nat×LoopAnn):=[]
theorem Hl (d:Int×List Int×Int×List Int):gwp (UB) (P3 d.1 d.2.1 d.2.2.1 d.2.2.2) c41 0 (Y4 [.tmp 2] (VA d) (U6 d)) (Qq 24 (AL.can Uk d))=Wn d.1 d.2.1 d.2.2.1 d.2.2.2:=by kernel_rfl
abbrev Hz:Prop:=OkC Tryz.prog 41 WT
theorem Hh (h:∀ (hk:Int) (lw:List Int) (hd:Int) (rows:List Int),(lw.length<=110/\rows.length<=110)->Wn hk lw hd rows):OkC Tryz.prog 41 WT :=
 Qu Z68 mixed (C:=UB) (V:=λ(d:Int×List Int×Int×List Int)=>Wn d.1 d.2.1 d.2.2.1 d.2.2.2) ⟨(.cons T3 (.cons DJ .nil)),XsOk.nil,ItsOk.nil,YlOk.nil,IysOk.nil,XfOk.nil⟩ (Hl) λd hp=>h d.1 d.2.1 d.2.2.1 d.2.2.2 hp
theorem Ud:Hz:=Hh λhk lw hd rows h=>by
 unfold Wn;(try delta lI gD sT I64 Q1 rg rb zD nS);simp only[bne_iff_ne,bne_eq_false_iff_eq,ne_eq];refine⟨by omega,λh1=>?_,λh1=>⟨by omega,λh2=>?_,λh2=>⟨λh3=>?_,λh3=>?_⟩⟩⟩
 .have:Q6 hk lw hd rows=Xr hk lw:=by unfold Q6;rw[z7 h1]
  rw[this];and_intros<;>first|rfl|trivial
 .have:Q6 hk lw hd rows=Q4 hd rows:=by unfold Q6;rw[z6 (by omega),z7 h2]
  rw[this];and_intros<;>first|rfl|trivial
 .have:Q6 hk lw hd rows=4:=by unfold Q6;rw[z6 (by omega),z6 (by omega),z7 (by omega)]
  rw[this];and_intros<;>first|rfl|trivial
 .have:Q6 hk lw hd rows=0:=by unfold Q6;rw[z6 (by omega),z6 (by omega),z6 (by omega)]
  rw[this];and_intros<;>first|rfl|trivial
def K3:AL ((Int×List Int×Int×List Int)×Int×Int×Int×Int×Bool):=(.cons (.agg (.cons (.k (.i .i64)) (.cons (.k (.list (.i .i64))) (.cons (.k (.i .i64)) (.one (.k (.list (.i .i64)))))))) (.one (.agg (.cons (.k (.i .i64)) (.cons (.k (.i .i64)) (.cons (.k (.i .i64)) (.cons (.k (.i .i64)) (.one (.k .bo)))))))))
def NG (d:(Int×List Int×Int×List Int)×Int×Int×Int×Int×Bool):Prop:=d.1.2.1.length<=110/\d.1.2.2.2.length<=110/\1<=d.1.2.2.1/\d.1.2.2.1<=24
def YU (d:(Int×List Int×Int×List Int)×Int×Int×Int×Int×Bool):SV:=.val .bo (BK d.1.2.2.1 d.1.2.2.2 d.1.2.1 (d.2.1,(d.2.2.1,(d.2.2.2.1,(d.2.2.2.2.1,d.2.2.2.2.2)))))
def YO (d:(Int×List Int×Int×List Int)×Int×Int×Int×Int×Bool):List OB:=[]
def WL:CSp:=Wt K3 NG YU YO
abbrev Ld:=λ(lw:List Int) (hd:Int) (rows:List Int) (dk:Int) (dp:Int) (dh:Int) (dw:Int) (du:Bool)=>(∀ ( qI:Bool ) ,qI=( dk==( 5:Int ) )->( qI=true->∀ ( se:Bool ) ,se=( ( dk==dk )&&( ( dp==( 0:Int ) )&&( ( dh==( 0:Int ) )&&( ( dw==dw )&&( du==false ) ) ) ) )->∀ ( nZ:Bool ) ,nZ=( true&&se )->( nZ=true->InK .i64 ( ( lI rows )-( 1:Int ) ) )/\( nZ=true->True )/\( nZ=true->[ dp ].length<=1000000 )/\∀ ( n6:Bool ) ,n6=( nZ&&( ! ( [ dp ].any λn=>decide ( n<( 0:Int ) )||decide ( ( ( lI rows )-( 1:Int ) )<n ) ) ) )->( n6=true->InK .i64 ( hd-( 1:Int ) ) )/\( n6=true->True )/\( n6=true->[ dh ].length<=1000000 )/\∀ ( n7:Bool ) ,n7=( n6&&( ! ( [ dh ].any λn=>decide ( n<( 0:Int ) )||decide ( ( hd-( 1:Int ) )<n ) ) ) )->( n7=true->InK .i64 ( ( lI lw )-( 1:Int ) ) )/\( n7=true->True )/\( n7=true->[ dw ].length<=1000000 )/\∀ ( sg:Bool ) ,sg=( n7&&( ! ( [ dw ].any λn=>decide ( n<( 0:Int ) )||decide ( ( ( lI lw )-( 1:Int ) )<n ) ) ) )->( sg=( BK hd rows lw ( dk ,( dp ,( dh ,( dw ,du ) ) ) ) )/\( True ) ) )/\( qI=false->∀ ( sh:Bool ) ,sh=( ( dk==dk )&&( ( dp==( 0:Int ) )&&( ( dh==( 0:Int ) )&&( ( dw==( 0:Int ) )&&( du==false ) ) ) ) )->∀ ( n8:Bool ) ,n8=( false&&sh )->( n8=true->InK .i64 ( ( lI rows )-( 1:Int ) ) )/\( n8=true->True )/\( n8=true->[ dp ].length<=1000000 )/\∀ ( n9:Bool ) ,n9=( n8&&( ! ( [ dp ].any λn=>decide ( n<( 0:Int ) )||decide ( ( ( lI rows )-( 1:Int ) )<n ) ) ) )->( n9=true->InK .i64 ( hd-( 1:Int ) ) )/\( n9=true->True )/\( n9=true->[ dh ].length<=1000000 )/\∀ ( n_:Bool ) ,n_=( n9&&( ! ( [ dh ].any λn=>decide ( n<( 0:Int ) )||decide ( ( hd-( 1:Int ) )<n ) ) ) )->( n_=true->InK .i64 ( ( lI lw )-( 1:Int ) ) )/\( n_=true->True )/\( n_=true->[ dw ].length<=1000000 )/\∀ ( oa:Bool ) ,oa=( n_&&( ! ( [ dw ].any λn=>decide ( n<( 0:Int ) )||decide ( ( ( lI lw )-( 1:Int ) )<n ) ) ) )->( oa=( BK hd rows lw ( dk ,( dp ,( dh ,( dw ,du ) ) ) ) )/\( True ) ) ):Prop)
abbrev HE (lw:List Int) (dw:Int):=(!([dw].any λn=>decide (n<(0:Int))||decide (((lI lw)-(1:Int))<n)))
abbrev HQ (rows:List Int) (dp:Int):=(!([dp].any λn=>decide (n<(0:Int))||decide (((lI rows)-(1:Int))<n)))
abbrev BX (hd:Int) (dh:Int):=(!([dh].any λn=>decide (n<(0:Int))||decide ((hd-(1:Int))<n)))
def X2 (hk:Int) (lw:List Int) (hd:Int) (rows:List Int) (dk:Int) (dp:Int) (dh:Int) (dw:Int) (du:Bool):Prop :=
  ∀ (y1:Bool), y1 = (dk == (1:Int)) -> (y1 = true ->
    ∀ (y2:Bool), y2 = ((dk == dk) && ((dp == dp) && ((dh == dh) && ((dw == (0:Int)) && (du == false))))) -> ∀ (y3:Bool), y3 = (true && y2) -> (y3 = true -> InK .i64 ((lI rows) - (1:Int))) /\ (y3 = true -> True) /\ (y3 = true -> [dp].length <= 1000000) /\ ∀ (y4:Bool), y4 = (y3 && (HQ rows dp)) -> (y4 = true -> InK .i64 (hd - (1:Int))) /\ (y4 = true -> True) /\ (y4 = true -> [dh].length <= 1000000) /\ ∀ (y5:Bool), y5 = (y4 && (BX hd dh)) -> (y5 = true -> InK .i64 ((lI lw) - (1:Int))) /\ (y5 = true -> True) /\ (y5 = true -> [dw].length <= 1000000) /\ ∀ (y6:Bool), y6 = (y5 && (HE lw dw)) -> (y6 = (BK hd rows lw (dk, (dp, (dh, (dw, du))))) /\ (True))) /\
  (y1 = false ->
    ∀ (y7:Bool), y7 = (dk == (2:Int)) -> (y7 = true ->
      ∀ (y8:Bool), y8 = ((dk == dk) && ((dp == (0:Int)) && ((dh == dh) && ((dw == (0:Int)) && (du == du))))) -> ∀ (y9:Bool), y9 = (true && y8) -> (y9 = true -> InK .i64 ((lI rows) - (1:Int))) /\ (y9 = true -> True) /\ (y9 = true -> [dp].length <= 1000000) /\ ∀ (j6:Bool), j6 = (y9 && (HQ rows dp)) -> (j6 = true -> InK .i64 (hd - (1:Int))) /\ (j6 = true -> True) /\ (j6 = true -> [dh].length <= 1000000) /\ ∀ (j7:Bool), j7 = (j6 && (BX hd dh)) -> (j7 = true -> InK .i64 ((lI lw) - (1:Int))) /\ (j7 = true -> True) /\ (j7 = true -> [dw].length <= 1000000) /\ ∀ (ob:Bool), ob = (j7 && (HE lw dw)) -> (ob = (BK hd rows lw (dk, (dp, (dh, (dw, du))))) /\ (True))) /\
    (y7 = false ->
      ∀ (j8:Bool), j8 = (dk == (3:Int)) -> (j8 = true ->
        (j8 = true ->
          ∀ (oc:Bool), oc = ((dk == dk) && ((dp == dp) && ((dh == (0:Int)) && ((dw == (0:Int)) && (du == false))))) -> ∀ (j9:Bool), j9 = (true && oc) -> (j9 = true -> InK .i64 ((lI rows) - (1:Int))) /\ (j9 = true -> True) /\ (j9 = true -> [dp].length <= 1000000) /\ ∀ (j_:Bool), j_ = (j9 && (HQ rows dp)) -> (j_ = true -> InK .i64 (hd - (1:Int))) /\ (j_ = true -> True) /\ (j_ = true -> [dh].length <= 1000000) /\ ∀ (ka:Bool), ka = (j_ && (BX hd dh)) -> (ka = true -> InK .i64 ((lI lw) - (1:Int))) /\ (ka = true -> True) /\ (ka = true -> [dw].length <= 1000000) /\ ∀ (od:Bool), od = (ka && (HE lw dw)) -> (od = (BK hd rows lw (dk, (dp, (dh, (dw, du))))) /\ (True))) /\
        (j8 = false ->
           (Ld lw hd rows dk dp dh dw du))) /\
      (j8 = false ->
        ∀ (qJ:Bool), qJ = (dk == (4:Int)) -> (qJ = true ->
          ∀ (si:Bool), si = ((dk == dk) && ((dp == dp) && ((dh == (0:Int)) && ((dw == (0:Int)) && (du == false))))) -> ∀ (oe:Bool), oe = (true && si) -> (oe = true -> InK .i64 ((lI rows) - (1:Int))) /\ (oe = true -> True) /\ (oe = true -> [dp].length <= 1000000) /\ ∀ (og:Bool), og = (oe && (HQ rows dp)) -> (og = true -> InK .i64 (hd - (1:Int))) /\ (og = true -> True) /\ (og = true -> [dh].length <= 1000000) /\ ∀ (jq:Bool), jq = (og && (BX hd dh)) -> (jq = true -> InK .i64 ((lI lw) - (1:Int))) /\ (jq = true -> True) /\ (jq = true -> [dw].length <= 1000000) /\ ∀ (oh:Bool), oh = (jq && (HE lw dw)) -> (oh = (BK hd rows lw (dk, (dp, (dh, (dw, du))))) /\ (True))) /\
        (qJ = false ->
           (Ld lw hd rows dk dp dh dw du)))))
def K1:Cx:=⟨[(3,(.i .i64))],[(40,Y6)],80,[],0,[],[],[],[],true,[],[],[],[]⟩
def Mu (hk:Int) (lw:List Int) (hd:Int) (rows:List Int) (dk:Int) (dp:Int) (dh:Int) (dw:Int) (du:Bool):List (Nat×LoopAnn):=[]
theorem Mr (d:(Int×List Int×Int×List Int)×Int×Int×Int×Int×Bool):gwp (K1) (Mu d.1.1 d.1.2.1 d.1.2.2.1 d.1.2.2.2 d.2.1 d.2.2.1 d.2.2.2.1 d.2.2.2.2.1 d.2.2.2.2.2) J02 0 (Y4 [.tmp 4] (YU d) (YO d)) (Qq 80 (AL.can K3 d))=X2 d.1.1 d.1.2.1 d.1.2.2.1 d.1.2.2.2 d.2.1 d.2.2.1 d.2.2.2.1 d.2.2.2.2.1 d.2.2.2.2.2:=by kernel_rfl
abbrev Mv:Prop:=OkC Tryz.prog 114 WL
theorem Mx (h:∀ (hk:Int) (lw:List Int) (hd:Int) (rows:List Int) (dk:Int) (dp:Int) (dh:Int) (dw:Int) (du:Bool),(lw.length<=110/\rows.length<=110/\1<=hd/\hd<=24)->X2 hk lw hd rows dk dp dh dw du):OkC Tryz.prog 114 WL :=
 Qu Z0s mixed (C:=K1) (V:=λ(d:(Int×List Int×Int×List Int)×Int×Int×Int×Int×Bool)=>X2 d.1.1 d.1.2.1 d.1.2.2.1 d.1.2.2.2 d.2.1 d.2.2.1 d.2.2.2.1 d.2.2.2.2.1 d.2.2.2.2.2) ⟨(.cons VF .nil),XsOk.nil,ItsOk.nil,YlOk.nil,IysOk.nil,XfOk.nil⟩ (Mr) λd hp=>h d.1.1 d.1.2.1 d.1.2.2.1 d.1.2.2.2 d.2.1 d.2.2.1 d.2.2.2.1 d.2.2.2.2.1 d.2.2.2.2.2 hp
theorem Ms:Mv:=Mx λhk lw hd rows dk dp dh dw du h=>by
 unfold X2;(try delta Ld HE HQ BX);(try delta lI gD sT I64 Q1 rg rb zD nS);have e:∀ n a b:Int,(decide (n<a)||decide (b<n))=!inI n a b:=λn a b=>(nI n a b).symm;simp only[Qf,List.any_cons,List.any_nil,xV,zw,List.length_nil,e,Bool.not_not,beq_self_eq_true,Bool.true_and,Bool.false_and]
 repeat' first
  |(refine And.intro ?_ ?_)
  |(intro _)
 all_goals first
  |trivial
  |omega
  |(subst_vars;unfold BK;generalize inI dp 0 _=a;generalize inI dh 0 _=b;generalize inI dw 0 _=c;cases du<;>cases a<;>cases b<;>cases c<;>simp_all (config:={decide:=true}) [inI]<;>omega)
def Mn:AL ((Int×Int×Int×Int×Bool)×Int×List Int×Int×List Int):=(.cons (.agg (.cons (.k (.i .i64)) (.cons (.k (.i .i64)) (.cons (.k (.i .i64)) (.cons (.k (.i .i64)) (.one (.k .bo))))))) (.one (.ptr (.cons (.k (.i .i64)) (.cons (.k (.list (.i .i64))) (.cons (.k (.i .i64)) (.one (.k (.list (.i .i64))))))))))
def Pp (d:(Int×Int×Int×Int×Bool)×Int×List Int×Int×List Int):Prop:=d.2.2.1.length<=110/\d.2.2.2.2.length<=110/\1<=d.2.2.2.1/\d.2.2.2.1<=24
def Nl (d:(Int×Int×Int×Int×Bool)×Int×List Int×Int×List Int):SV:=.val .bo (!BK d.2.2.2.1 d.2.2.2.2 d.2.2.1 (d.1.1,(d.1.2.1,(d.1.2.2.1,(d.1.2.2.2.1,d.1.2.2.2.2)))))
def N3 (d:(Int×Int×Int×Int×Bool)×Int×List Int×Int×List Int):List OB:=[]
def VG:CSp:=Wt Mn Pp Nl N3
def Ym (dk:Int) (dp:Int) (dh:Int) (dw:Int) (du:Bool) (hk:Int) (lw:List Int) (hd:Int) (rows:List Int):Prop :=
 (lw.length<=110/\rows.length<=110/\1<=hd/\hd<=24)/\((!(BK hd rows lw (dk,(dp,(dh,(dw,du))))))=(!BK hd rows lw (dk,(dp,(dh,(dw,du)))))/\(True))
def Mg:Cx:=⟨[],[(114,WL)],9,[],0,[],[],[],[],false,[],[],[],[]⟩
def R6 (dk:Int) (dp:Int) (dh:Int) (dw:Int) (du:Bool) (hk:Int) (lw:List Int) (hd:Int) (rows:List Int):List (Nat×LoopAnn):=[]
theorem R3 (d:(Int×Int×Int×Int×Bool)×Int×List Int×Int×List Int):gwp (Mg) (R6 d.1.1 d.1.2.1 d.1.2.2.1 d.1.2.2.2.1 d.1.2.2.2.2 d.2.1 d.2.2.1 d.2.2.2.1 d.2.2.2.2) Z8o 0 (Y4 [.tmp 3] (Nl d) (N3 d)) (Qq 9 (AL.can Mn d))=Ym d.1.1 d.1.2.1 d.1.2.2.1 d.1.2.2.2.1 d.1.2.2.2.2 d.2.1 d.2.2.1 d.2.2.2.1 d.2.2.2.2:=by kernel_rfl
abbrev TO:Prop:=OkC Tryz.prog 113 VG
theorem TP (h:∀ (dk:Int) (dp:Int) (dh:Int) (dw:Int) (du:Bool) (hk:Int) (lw:List Int) (hd:Int) (rows:List Int),(lw.length<=110/\rows.length<=110/\1<=hd/\hd<=24)->Ym dk dp dh dw du hk lw hd rows):OkC Tryz.prog 113 VG :=
 Qu Z01 mixed (C:=Mg) (V:=λ(d:(Int×Int×Int×Int×Bool)×Int×List Int×Int×List Int)=>Ym d.1.1 d.1.2.1 d.1.2.2.1 d.1.2.2.2.1 d.1.2.2.2.2 d.2.1 d.2.2.1 d.2.2.2.1 d.2.2.2.2) ⟨(.cons Ms .nil),XsOk.nil,ItsOk.nil,YlOk.nil,IysOk.nil,XfOk.nil⟩ (R3) λd hp=>h d.1.1 d.1.2.1 d.1.2.2.1 d.1.2.2.2.1 d.1.2.2.2.2 d.2.1 d.2.2.1 d.2.2.2.1 d.2.2.2.2 hp
theorem R0:TO:=TP λdk dp dh dw du hk lw hd rows h=>by unfold Ym;(try delta lI gD sT I64 Q1 rg rb zD nS);and_intros<;>first|omega|rfl|trivial
def DI:AL ((Int×List Int×Int×List Int)×List (Int×Int×Int×Int×Bool)):=(.cons (.agg (.cons (.k (.i .i64)) (.cons (.k (.list (.i .i64))) (.cons (.k (.i .i64)) (.one (.k (.list (.i .i64)))))))) (.one (.k (.list (.pair (.i .i64) (.pair (.i .i64) (.pair (.i .i64) (.pair (.i .i64) .bo))))))))
def Lh (d:(Int×List Int×Int×List Int)×List (Int×Int×Int×Int×Bool)):Prop:=d.1.2.1.length<=110/\d.1.2.2.2.length<=110/\d.2.length<=1000
def G4 (d:(Int×List Int×Int×List Int)×List (Int×Int×Int×Int×Bool)):SV:=.val (.i .i64) (Wx d.1.1 d.1.2.1 d.1.2.2.1 d.1.2.2.2 d.2)
def Gk (d:(Int×List Int×Int×List Int)×List (Int×Int×Int×Int×Bool)):List OB:=[]
def NY:CSp:=Wt DI Lh G4 Gk
def Kt (hk:Int) (lw:List Int) (hd:Int) (rows:List Int) (ds:List (Int×Int×Int×Int×Bool)):Prop :=
 (lw.length<=110/\rows.length<=110)/\(((Q6 hk lw hd rows) != (0:Int))=true ->
  ((Q6 hk lw hd rows)=(Wx hk lw hd rows ds)/\(True))) /\
 (((Q6 hk lw hd rows) != (0:Int))=false ->
  ((decide ((lI ds) > (100:Int)))=true ->
   ((5:Int)=(Wx hk lw hd rows ds)/\(True))) /\
  ((decide ((lI ds) > (100:Int)))=false ->
   (ds.length<=1000000/\∀ x∈ds,(λ(x1:Int×Int×Int×Int×Bool)=>lw.length<=110/\rows.length<=110/\1<=hd/\hd<=24) x)/\((ds.any (λ(x1:Int×Int×Int×Int×Bool)=>(!BK hd rows lw (x1.1,(x1.2.1,(x1.2.2.1,(x1.2.2.2.1,x1.2.2.2.2)))))))=true ->
    ((2:Int)=(Wx hk lw hd rows ds)/\(True))) /\
   ((ds.any (λ(x1:Int×Int×Int×Int×Bool)=>(!BK hd rows lw (x1.1,(x1.2.1,(x1.2.2.1,(x1.2.2.2.1,x1.2.2.2.2)))))))=false ->
    ((0:Int)=(Wx hk lw hd rows ds)/\(True)))))
def DQ:Cx:=⟨[],[(41,WT),(115,Qr),(113,VG)],21,[],0,[],[],[],[],false,[],[],[],[]⟩
def Aa (hk:Int) (lw:List Int) (hd:Int) (rows:List Int) (ds:List (Int×Int×Int×Int×Bool)):List (Nat×LoopAnn):=[]
theorem C3 (d:(Int×List Int×Int×List Int)×List (Int×Int×Int×Int×Bool)):gwp (DQ) (Aa d.1.1 d.1.2.1 d.1.2.2.1 d.1.2.2.2 d.2) c75 0 (Y4 [.tmp 4] (G4 d) (Gk d)) (Qq 21 (AL.can DI d))=Kt d.1.1 d.1.2.1 d.1.2.2.1 d.1.2.2.2 d.2:=by kernel_rfl
abbrev LX:Prop:=OkC Tryz.prog 75 NY
theorem LY (h:∀ (hk:Int) (lw:List Int) (hd:Int) (rows:List Int) (ds:List (Int×Int×Int×Int×Bool)),(lw.length<=110/\rows.length<=110/\ds.length<=1000)->Kt hk lw hd rows ds):OkC Tryz.prog 75 NY :=
 Qu Z70 mixed (C:=DQ) (V:=λ(d:(Int×List Int×Int×List Int)×List (Int×Int×Int×Int×Bool))=>Kt d.1.1 d.1.2.1 d.1.2.2.1 d.1.2.2.2 d.2) ⟨(.cons Ud (.cons Jr (.cons R0 .nil))),XsOk.nil,ItsOk.nil,YlOk.nil,IysOk.nil,XfOk.nil⟩ (C3) λd hp=>h d.1.1 d.1.2.1 d.1.2.2.1 d.1.2.2.2 d.2 hp
theorem CR:LX:=LY λhk lw hd rows ds h=>by
 obtain⟨g1,g2,g3⟩:lw.length<=110/\rows.length<=110/\ds.length<=1000:=by omega
 unfold Kt;(try delta lI gD sT I64 Q1 rg rb zD nS);simp only[bne_iff_ne,bne_eq_false_iff_eq,ne_eq,zf,zy];have hh:Q6 hk lw hd rows=0->1<=hd/\hd<=24:=λe=>by
  unfold Q6 at e;split at e
  .omega
  .split at e
   .omega
   .rename_i _ e2;have e3:Q4 hd rows=0:=by omega
    unfold Q4 at e3;split at e3
    .cases e3
    .rename_i e4;have e5:inI hd 1 24=true:=by simpa using e4
     simpa [inI] using e5
 refine⟨⟨g1,g2⟩,λh1=>?_,λh1=>⟨λh2=>?_,λh2=>⟨⟨by omega,λ_ _=>⟨g1,g2,hh (by omega)⟩⟩,λh3=>?_,λh3=>?_⟩⟩⟩
 .have:Wx hk lw hd rows ds=Q6 hk lw hd rows:=by unfold Wx;rw[z7 h1]
  rw[this];and_intros<;>first|rfl|trivial
 .have:Wx hk lw hd rows ds=5:=by unfold Wx;rw[z6 (by omega),z7 (by omega)]
  rw[this];and_intros<;>first|rfl|trivial
 .have:Wx hk lw hd rows ds=2:=by unfold Wx;rw[z6 (by omega),z6 (by omega),z7 h3]
  rw[this];and_intros<;>first|rfl|trivial
 .have:Wx hk lw hd rows ds=0:=by unfold Wx;rw[z6 (by omega),z6 (by omega),z6 (by rw[show (ds.any λd=>!BK hd rows lw d)=false from h3];decide)]
  rw[this];and_intros<;>first|rfl|trivial
def Hs:AL ((Int×List Int×Int×List Int)×(List (Int×Int×Int×Int×Bool))×Int):=(.cons (.agg (.cons (.k (.i .i64)) (.cons (.k (.list (.i .i64))) (.cons (.k (.i .i64)) (.one (.k (.list (.i .i64)))))))) (.cons (.k (.list (.pair (.i .i64) (.pair (.i .i64) (.pair (.i .i64) (.pair (.i .i64) .bo)))))) (.one (.k (.i .i64)))))
def A8 (d:(Int×List Int×Int×List Int)×(List (Int×Int×Int×Int×Bool))×Int):Prop:=d.1.2.1.length<=110/\d.1.2.2.2.length<=110/\d.2.1.length<=1000
def Ba (d:(Int×List Int×Int×List Int)×(List (Int×Int×Int×Int×Bool))×Int):SV:=.val (.i .i64) (Qs d.1.1 d.1.2.1 d.1.2.2.1 d.1.2.2.2 d.2.1 d.2.2)
def DD (d:(Int×List Int×Int×List Int)×(List (Int×Int×Int×Int×Bool))×Int):List OB:=[]
def Ue:CSp:=Wt Hs A8 Ba DD
def Vm (hk:Int) (lw:List Int) (hd:Int) (rows:List Int) (ds:List (Int×Int×Int×Int×Bool)) (n:Int):Prop :=
 (lw.length<=110/\rows.length<=110/\ds.length<=1000)/\(((Wx hk lw hd rows ds) != (0:Int))=true ->
  ((Wx hk lw hd rows ds)=(Qs hk lw hd rows ds n)/\(True))) /\
 (((Wx hk lw hd rows ds) != (0:Int))=false ->
  ([n].length<=1000000)/\((!(!([n].any λn=>decide (n<(1:Int))||decide ((120:Int)<n))))=true ->
   ((3:Int)=(Qs hk lw hd rows ds n)/\(True))) /\
  ((!(!([n].any λn=>decide (n<(1:Int))||decide ((120:Int)<n))))=false ->
   ((0:Int)=(Qs hk lw hd rows ds n)/\(True))))
def P1:Cx:=⟨[(3,(.i .i64))],[(75,NY),(40,Y6)],18,[],0,[],[],[],[],false,[],[],[],[]⟩
def EK (hk:Int) (lw:List Int) (hd:Int) (rows:List Int) (ds:List (Int×Int×Int×Int×Bool)) (n:Int):List (Nat×LoopAnn):=[]
theorem AZ (d:(Int×List Int×Int×List Int)×(List (Int×Int×Int×Int×Bool))×Int):gwp (P1) (EK d.1.1 d.1.2.1 d.1.2.2.1 d.1.2.2.2 d.2.1 d.2.2) c33 0 (Y4 [.tmp 6] (Ba d) (DD d)) (Qq 18 (AL.can Hs d))=Vm d.1.1 d.1.2.1 d.1.2.2.1 d.1.2.2.2 d.2.1 d.2.2:=by kernel_rfl
abbrev Fh:Prop:=OkC Tryz.prog 33 Ue
theorem Ec (h:∀ (hk:Int) (lw:List Int) (hd:Int) (rows:List Int) (ds:List (Int×Int×Int×Int×Bool)) (n:Int),(lw.length<=110/\rows.length<=110/\ds.length<=1000)->Vm hk lw hd rows ds n):OkC Tryz.prog 33 Ue :=
 Qu Z75 mixed (C:=P1) (V:=λ(d:(Int×List Int×Int×List Int)×(List (Int×Int×Int×Int×Bool))×Int)=>Vm d.1.1 d.1.2.1 d.1.2.2.1 d.1.2.2.2 d.2.1 d.2.2) ⟨(.cons CR (.cons VF .nil)),XsOk.nil,ItsOk.nil,YlOk.nil,IysOk.nil,XfOk.nil⟩ (AZ) λd hp=>h d.1.1 d.1.2.1 d.1.2.2.1 d.1.2.2.2 d.2.1 d.2.2 hp
theorem H6:Fh:=Ec λhk lw hd rows ds n h=>by
 unfold Vm;(try delta lI gD sT I64 Q1 rg rb zD nS);simp only[bne_iff_ne,bne_eq_false_iff_eq,ne_eq,Bool.not_not,<-nI,List.any_cons,List.any_nil,xV,zw,List.length_nil];refine⟨by omega,λh1=>?_,λh1=>⟨by omega,λh2=>?_,λh2=>?_⟩⟩
 .have:Qs hk lw hd rows ds n=Wx hk lw hd rows ds:=by unfold Qs;rw[z7 h1]
  rw[this];and_intros<;>first|rfl|trivial
 .have:Qs hk lw hd rows ds n=3:=by unfold Qs;rw[z6 (by omega),z6 (by simpa using h2)]
  rw[this];and_intros<;>first|rfl|trivial
 .have:Qs hk lw hd rows ds n=0:=by unfold Qs;rw[z6 (by omega),z7 (by simpa using h2)]
  rw[this];and_intros<;>first|rfl|trivial
def Se:AL (Bool):=(.one (.k .bo))
def Ob (d:Bool):Prop:=True
def TE (d:Bool):SV:=.val (.i .u8) (Bl d)
def T6 (d:Bool):List OB:=[]
def Pm:CSp:=Wt Se Ob TE T6
def NW (x:Bool):Prop :=
 (x=true ->
  ((120:Int)=(Bl x)/\(True))) /\
 (x=false ->
  ((46:Int)=(Bl x)/\(True)))
def Sj:Cx:=⟨[],[],4,[],0,[],[],[],[],false,[],[],[],[]⟩
def Q0k (x:Bool):List (Nat×LoopAnn):=[]
theorem Oz (d:Bool):gwp (Sj) (Q0k d) c85 0 (Y4 [.tmp 2] (TE d) (T6 d)) (Qq 4 (AL.can Se d))=NW d:=by kernel_rfl
abbrev Q0h:Prop:=OkC Tryz.prog 85 Pm
theorem Q01 (h:∀ (x:Bool),(True)->NW x):OkC Tryz.prog 85 Pm :=
 Qu Z3v mixed (C:=Sj) (V:=λ(d:Bool)=>NW d) ⟨.nil,XsOk.nil,ItsOk.nil,YlOk.nil,IysOk.nil,XfOk.nil⟩ (Oz) λd hp=>h d hp
theorem Q0i:Q0h:=Q01 λx _=>by cases x<;>simp[NW,Bl]
def Ky:AL ((Int×List Int)×Int×Int):=(.cons (.agg (.cons (.k (.i .i64)) (.one (.k (.list (.i .i64)))))) (.cons (.k (.i .i64)) (.one (.k (.i .i64)))))
def Mw (d:(Int×List Int)×Int×Int):Prop:=0<=d.2.2/\d.2.2<d.1.2.length/\0<=d.2.1/\d.2.1<9223372036854775808/\∀ x∈d.1.2,0<=x/\x<=60
def Y_ (d:(Int×List Int)×Int×Int):SV:=.val .bo (d.2.1.toNat.testBit (d.1.2.getD d.2.2.toNat 0).toNat)
def K6 (d:(Int×List Int)×Int×Int):List OB:=[]
def Y3:CSp:=Wt Ky Mw Y_ K6
def Xd (hk:Int) (lw:List Int) (row:Int) (w:Int):Prop :=
 (0<=w)/\(w<lw.length)/\(0<=(gD lw w 0))/\(((QB .and .i64 (UH .i64 row (gD lw w 0)) (1:Int))==(1:Int))=(row.toNat.testBit (lw.getD w.toNat 0).toNat)/\(True))
def KL:Cx:=⟨[],[],17,[],0,[],[],[],[],false,[],[],[],[]⟩
def MV (hk:Int) (lw:List Int) (row:Int) (w:Int):List (Nat×LoopAnn):=[]
theorem Gs (d:(Int×List Int)×Int×Int):gwp (KL) (MV d.1.1 d.1.2 d.2.1 d.2.2) c86 0 (Y4 [.tmp 6] (Y_ d) (K6 d)) (Qq 17 (AL.can Ky d))=Xd d.1.1 d.1.2 d.2.1 d.2.2:=by kernel_rfl
abbrev MH:Prop:=OkC Tryz.prog 86 Y3
theorem Gh (h:∀ (hk:Int) (lw:List Int) (row:Int) (w:Int),(0<=w/\w<lw.length/\0<=row/\row<9223372036854775808/\∀ x∈lw,0<=x/\x<=60)->Xd hk lw row w):OkC Tryz.prog 86 Y3 :=
 Qu Z4w mixed (C:=KL) (V:=λ(d:(Int×List Int)×Int×Int)=>Xd d.1.1 d.1.2 d.2.1 d.2.2) ⟨.nil,XsOk.nil,ItsOk.nil,YlOk.nil,IysOk.nil,XfOk.nil⟩ (Gs) λd hp=>h d.1.1 d.1.2 d.2.1 d.2.2 hp
theorem Gy:MH:=Gh λhk lw row w h=>by
 obtain⟨h1,h2,h3,h4,h5⟩:=h;obtain⟨w,rfl⟩:=zA h1;obtain⟨r,rfl⟩:=zA h3;have hw:w<lw.length:=by omega
 have hx:=h5 _ (zl hw);obtain⟨k,hk⟩:=zA hx.1;unfold Xd;(try delta lI gD sT I64 Q1 rg rb zD nS);simp only[and_true,ze,Int.ofNat_lt,Qc hw,hk];refine⟨by omega,by omega,by omega,?_⟩;exact Z2l (by omega) (by omega)
def Wi:Cx:=⟨[],[],20,[],0,[(145,Z1i)],[],[],[],false,[],[],[],[]⟩
def JU:XSp:=FJ Wi (λ_=>[]) Z95 [] 20
theorem W9:XOk Tryz.prog 124 JU:=WN Z0b mixed (C:=Wi) ⟨.nil,(XsOk.cons (Q25 OP) XsOk.nil),ItsOk.nil,YlOk.nil,IysOk.nil,XfOk.nil⟩ _
def Wm:Cx:=⟨[(5,(.i .u8))],[],17,[],0,[(124,JU)],[],[],[],false,[],[],[],[]⟩
def WC:XSp:=FJ Wm (λ_=>[]) c84 [.tmp 4] 17
theorem KW:XOk Tryz.prog 84 WC:=WN Z6n mixed (C:=Wm) ⟨.nil,(XsOk.cons W9 XsOk.nil),ItsOk.nil,YlOk.nil,IysOk.nil,XfOk.nil⟩ _
def Yc:Cx:=⟨[],[],14,[],0,[],[],[],[],false,[],[],[],[]⟩
def YB:XSp:=FJ Yc (λ_=>[]) c87 [.tmp 2] 14
theorem U9:XOk Tryz.prog 87 YB:=WN Z7f mixed (C:=Yc) ⟨.nil,XsOk.nil,ItsOk.nil,YlOk.nil,IysOk.nil,XfOk.nil⟩ _
def VY:AL ((Int×List Int)×Int):=(.cons (.agg (.cons (.k (.i .i64)) (.one (.k (.list (.i .i64)))))) (.one (.k (.i .i64))))
def Dc (d:(Int×List Int)×Int):Prop:=d.1.2.length<=110/\0<=d.2/\d.2<9223372036854775808/\∀ x∈d.1.2,0<=x/\x<=60
def V5 (d:(Int×List Int)×Int):SV:=.val .st (ZF d.1.2 d.2)
def V7 (d:(Int×List Int)×Int):List OB:=[]
def YX:CSp:=Wt VY Dc V5 V7
def W1 (hk:Int) (lw:List Int) (row:Int):Prop :=
 ∃ (e4:Unit) (d40:Bool×(List Int)×Int),((row=row/\True/\True/\(lI lw)=(lI lw)/\(0:Int)=d40.2.2/\True)/\((hk=hk/\lw=lw/\nS)/\(d40.1=false/\True/\nS)/\(d40.2.1=[]/\d40.2.1.isEmpty=true)/\True)) /\
 LoopP (λ(d4:Bool×(List Int)×Int) (q4:(Bool×(List Int)×Int)->Prop) =>
  ((decide (d4.2.2<(lI lw)))=true ->
   (0<=d4.2.2/\d4.2.2<lw.length/\0<=row/\row<9223372036854775808/\∀ x∈lw,0<=x/\x<=60)/\(True)/\∀ w5:List Value,∀ w6:List Value,((!d4.1)=true ->
    w6=w6/\((d4.2.1.length+(List.length [(Bl (row.toNat.testBit (lw.getD d4.2.2.toNat 0).toNat))]))*1<=70368744177664)/\w5=w5/\(I64 (d4.2.2+(1:Int)))/\(∃ d7:Bool×(List Int)×Int,((row=row/\True/\True/\(lI lw)=(lI lw)/\(d4.2.2+(1:Int))=d7.2.2/\True)/\((hk=hk/\lw=lw/\nS)/\(d7.1=true/\True/\nS)/\((d4.2.1++[(Bl (row.toNat.testBit (lw.getD d4.2.2.toNat 0).toNat))])=d7.2.1/\false=d7.2.1.isEmpty)/\True))/\q4 d7)) /\
   ((!d4.1)=false ->
    (d4.1=true)/\((!true)=true ->
     False) /\
    ((!true)=false ->
     w6=w6/\((d4.2.1.length+(List.length [(Bl (row.toNat.testBit (lw.getD d4.2.2.toNat 0).toNat))]))*1<=70368744177664)/\w5=w5/\(I64 (d4.2.2+(1:Int)))/\(∃ d8:Bool×(List Int)×Int,((row=row/\True/\True/\(lI lw)=(lI lw)/\(d4.2.2+(1:Int))=d8.2.2/\True)/\((hk=hk/\lw=lw/\nS)/\(d4.1=d8.1/\True/\nS)/\((d4.2.1++[(Bl (row.toNat.testBit (lw.getD d4.2.2.toNat 0).toNat))])=d8.2.1/\false=d8.2.1.isEmpty)/\True))/\q4 d8)))) /\
  ((decide (d4.2.2<(lI lw)))=false ->
   ∀ w9:List Value,(d4.2.1.isEmpty=false->d4.2.1≠[])/\((lI d4.2.1)=d4.2.1.length)/\(d4.2.1.length<=4611686018427387904)/\w9=w9/\((VM d4.2.1)=(ZF lw row)/\(True)))) d40
def VJ:Cx:=⟨[(5,(.i .u8))],[(86,Y3),(85,Pm)],22,[],0,[(84,WC),(124,JU),(145,Z1i),(87,YB)],[],[],[],false,[],[],[],[]⟩
def Bj (hk:Int) (lw:List Int) (row:Int):List (Nat×LoopAnn):=[(0,⟨Unit,Bool×(List Int)×Int,[1,2,5,10,11],λe x=>[.val (.i .i64) row,.box 2 0,.box 5 0,.val (.i .i64) ((lw.length:Nat):Int),.val (.i .i64) x.2.2],λe x=>[(2,.slot 2,.cells [.val (.i .i64) hk,.val (.list (.i .i64)) lw] (some 95)),(5,.slot 5,.cells [.dd 5 (.obx x.1),.lst 2000014] (some 163)),(2000014,.cell 5 1,.lst 5 (.i .u8) x.2.1 (List.isEmpty x.2.1))]⟩)]
theorem BF (d:(Int×List Int)×Int):gwp (VJ) (Bj d.1.1 d.1.2 d.2) c37 0 (Y4 [.tmp 4] (V5 d) (V7 d)) (Qq 22 (AL.can VY d))=W1 d.1.1 d.1.2 d.2:=by kernel_rfl
abbrev BG:Prop:=OkC Tryz.prog 37 YX
theorem Bs (h:∀ (hk:Int) (lw:List Int) (row:Int),(lw.length<=110/\0<=row/\row<9223372036854775808/\∀ x∈lw,0<=x/\x<=60)->W1 hk lw row):OkC Tryz.prog 37 YX :=
 Qu Z6r mixed (C:=VJ) (V:=λ(d:(Int×List Int)×Int)=>W1 d.1.1 d.1.2 d.2) ⟨(.cons Gy (.cons Q0i .nil)),(XsOk.cons KW (XsOk.cons W9 (XsOk.cons (Q25 OP) (XsOk.cons U9 XsOk.nil)))),ItsOk.nil,YlOk.nil,IysOk.nil,XfOk.nil⟩ (BF) λd hp=>h d.1.1 d.1.2 d.2 hp
theorem Q3r (lw:List Int) (row:Int):VM (lw.map λk=>Bl (row.toNat.testBit k.toNat))=ZF lw row:=by simp only[VM,ZF,wG];refine xk λk _=>?_;simp only[Function.comp,Bl];split<;>rfl
theorem Bf:BG:=Bs λhk lw row h=>by
 obtain⟨h1,h2,h3,h4⟩:=h;unfold W1;(try delta lI gD sT I64 Q1 rg rb zD nS);simp only[true_and,and_true,exists_const,zf,zy,ne_eq,Bool.not_eq_true',xq,Qf];refine⟨(false,[],0),⟨rfl,rfl,rfl,rfl⟩,?_⟩;refine⟨λd=>∃ i:Nat,i<=lw.length/\d.2.2=i/\d.2.1=(lw.take i).map λk=>Bl (row.toNat.testBit k.toNat),λd=>lw.length-d.2.2.toNat,⟨0,Nat.zero_le _,rfl,by simp⟩,?_⟩;rintro⟨c,xs,_⟩ ⟨i,hi,rfl,bm⟩;dsimp only at bm |-;have fp:xs.length=i:=by rw[bm];simp;omega
 refine⟨λao=>?_,λbZ=>?_⟩
 .have ao:i<lw.length:=by omega
  have hn:xs++[Bl (row.toNat.testBit lw[i].toNat)]=(lw.take (i+1)).map λk=>Bl (row.toNat.testBit k.toNat):=by rw[bm,ZG ao,xd];rfl
  simp only[ze,Qc ao,xt];refine⟨⟨by omega,by omega,h2,h3,h4⟩,λ_ w6=>⟨λhc=>?_,λhc=>?_⟩⟩
  .exact⟨by omega,by omega,(true,xs++[Bl (row.toNat.testBit lw[i].toNat)],(i:Int)+1),⟨rfl,rfl,rfl,by simp⟩,⟨i+1,by omega,by simp,hn⟩,by dsimp only;omega⟩
  .refine⟨by simpa using hc,?_⟩;refine⟨λh=>by simp at h,λ_=>?_⟩;exact⟨by omega,by omega,(c,xs++[Bl (row.toNat.testBit lw[i].toNat)],(i:Int)+1),⟨rfl,rfl,rfl,by simp⟩,⟨i+1,by omega,by simp,hn⟩,by dsimp only;omega⟩
 .have:i=lw.length:=by omega
  subst this;rw[List.take_length] at bm;refineλ_=>⟨?_,by omega,?_⟩
  .intro aK h0;rw[h0] at aK;simp at aK
  .rw[bm];exact Q3r lw row
def T5:AL ((Int×List Int)×Int×List Int):=(.cons (.agg (.cons (.k (.i .i64)) (.one (.k (.list (.i .i64)))))) (.one (.agg (.cons (.k (.i .i64)) (.one (.k (.list (.i .i64))))))))
def EI (d:(Int×List Int)×Int×List Int):Prop:=d.1.2.length<=110/\d.2.2.length<=110
def H2 (d:(Int×List Int)×Int×List Int):SV:=.tup [.lst 0,.val (.i .i64) (Q6 d.1.1 d.1.2 d.2.1 d.2.2)]
def HS (d:(Int×List Int)×Int×List Int):List OB:=[.lst 9 .st (QY d.1.1 d.1.2 d.2.1 d.2.2) ((QY d.1.1 d.1.2 d.2.1 d.2.2).isEmpty)]
def U8:CSp:=Wt T5 EI H2 HS
def Uu (hk:Int) (lw:List Int) (hd:Int) (rows:List Int):Prop :=
 (lw.length<=1000000)/\(((Xr hk lw) != (0:Int))=true ->
  ((True/\(Xr hk lw)=Q6 hk lw hd rows/\nS)/\(((QY hk lw hd rows)=[]/\(QY hk lw hd rows).isEmpty=true)/\True))) /\
 (((Xr hk lw) != (0:Int))=false ->
  (rows.length<=1000000)/\(((Q4 hd rows) != (0:Int))=true ->
   ((True/\(Q4 hd rows)=Q6 hk lw hd rows/\nS)/\(((QY hk lw hd rows)=[]/\(QY hk lw hd rows).isEmpty=true)/\True))) /\
  (((Q4 hd rows) != (0:Int))=false ->
   ((hd != hk)=true ->
    ((True/\(4:Int)=Q6 hk lw hd rows/\nS)/\(((QY hk lw hd rows)=[]/\(QY hk lw hd rows).isEmpty=true)/\True))) /\
   ((hd != hk)=false ->
    ∃ (e4:Unit) (d40:(List (List UInt8))×Int),((True/\True/\rows=rows/\(lI rows)=(lI rows)/\(0:Int)=d40.2/\True)/\((hk=hk/\lw=lw/\nS)/\(d40.1=[]/\d40.1.isEmpty=true)/\True)) /\
    LoopP (λ(d4:(List (List UInt8))×Int) (q4:((List (List UInt8))×Int)->Prop) =>
     ((decide (d4.2<(lI rows)))=true ->
      (0<=d4.2)/\(d4.2<rows.length)/\(lw.length<=110/\0<=(gD rows d4.2 0)/\(gD rows d4.2 0)<9223372036854775808/\∀ x∈lw,0<=x/\x<=60)/\((d4.1.length+(List.length [(ZF lw (gD rows d4.2 0))]))*16<=70368744177664)/\(I64 (d4.2+(1:Int)))/\(∃ d5:(List (List UInt8))×Int,((True/\True/\rows=rows/\(lI rows)=(lI rows)/\(d4.2+(1:Int))=d5.2/\True)/\((hk=hk/\lw=lw/\nS)/\((d4.1++[(ZF lw (gD rows d4.2 0))])=d5.1/\false=d5.1.isEmpty)/\True))/\q4 d5)) /\
     ((decide (d4.2<(lI rows)))=false ->
      ((True/\(0:Int)=Q6 hk lw hd rows/\nS)/\((d4.1=(QY hk lw hd rows)/\d4.1.isEmpty=(QY hk lw hd rows).isEmpty)/\True)))) d40)))
def T9:Cx:=⟨[(9,.st)],[(35,N_),(36,Vr),(37,YX)],43,[],0,[],[],[],[],false,[],[],[],[]⟩
def IV (hk:Int) (lw:List Int) (hd:Int) (rows:List Int):List (Nat×LoopAnn):=[(1,⟨Unit,(List (List UInt8))×Int,[2,4,28,29,30],λe x=>[.box 2 0,.lst 40,.val (.list (.i .i64)) rows,.val (.i .i64) ((rows.length:Nat):Int),.val (.i .i64) x.2],λe x=>[(2,.slot 2,.cells [.val (.i .i64) hk,.val (.list (.i .i64)) lw] (some 26)),(40,.slot 4,.lst 9 .st x.1 (List.isEmpty x.1))]⟩)]
theorem Ig (d:(Int×List Int)×Int×List Int):gwp (T9) (IV d.1.1 d.1.2 d.2.1 d.2.2) c10 0 (Y4 [.tmp 4,.tmp 5] (H2 d) (HS d)) (Qq 43 (AL.can T5 d))=Uu d.1.1 d.1.2 d.2.1 d.2.2:=by kernel_rfl
abbrev It:Prop:=OkC Tryz.prog 10 U8
theorem IY (h:∀ (hk:Int) (lw:List Int) (hd:Int) (rows:List Int),(lw.length<=110/\rows.length<=110)->Uu hk lw hd rows):OkC Tryz.prog 10 U8 :=
 Qu Z64 mixed (C:=T9) (V:=λ(d:(Int×List Int)×Int×List Int)=>Uu d.1.1 d.1.2 d.2.1 d.2.2) ⟨(.cons T3 (.cons DJ (.cons Bf .nil))),XsOk.nil,ItsOk.nil,YlOk.nil,IysOk.nil,XfOk.nil⟩ (Ig) λd hp=>h d.1.1 d.1.2 d.2.1 d.2.2 hp
theorem F8 {hd:Int}{rows:List Int}(h:Q4 hd rows=0):1<=hd/\hd<=24/\rows.length<=60/\rows.length≠0/\∀ x∈rows,0<=x/\x<2 ^ hd.toNat:=by
 unfold Q4 at h;split at h
 .cases h
 .rename_i h1;split at h
  .cases h
  .rename_i h2;split at h
   .cases h
   .rename_i h3;split at h
    .cases h
    .rename_i h4;have h1:1<=hd/\hd<=24:=by simpa [inI] using h1
     refine⟨h1.1,h1.2,by omega,h3,λx hx=>?_⟩;have h5:∀ x∈rows,inI x 0 (2 ^ hd.toNat-1)=true:=by simpa using h4
     have:=h5 x hx;simp only[inI,z0,zf] at this;omega
theorem MZ:It:=IY λhk lw hd rows h=>by
 obtain⟨h1,h2⟩:=h;unfold Uu;(try delta lI gD sT I64 Q1 rg rb zD nS);simp only[true_and,and_true,exists_const,zf,zy,bne_iff_ne,ne_eq,bne_eq_false_iff_eq,Qf];refine⟨by omega,λhe=>?_,λhe=>⟨by omega,λhp=>?_,λhp=>⟨λhh=>?_,λhh=>?_⟩⟩⟩
 .have e:Q6 hk lw hd rows=Xr hk lw:=by simp[Q6,he]
  have e2:QY hk lw hd rows=[]:=by simp[QY,e,he]
  rw[e,e2];exact⟨rfl,rfl,rfl⟩
 .have e:Q6 hk lw hd rows=Q4 hd rows:=by simp[Q6,he,hp]
  have e2:QY hk lw hd rows=[]:=by simp[QY,e,hp]
  rw[e,e2];exact⟨rfl,rfl,rfl⟩
 .have e:Q6 hk lw hd rows=4:=by simp[Q6,he,hp,hh]
  have e2:QY hk lw hd rows=[]:=by simp[QY,e]
  rw[e,e2];exact⟨rfl,rfl,rfl⟩
 have e:Q6 hk lw hd rows=0:=by unfold Q6;rw[z6 (by omega),z6 (by omega),z6 (by omega)]
 have e2:QY hk lw hd rows=rows.map (ZF lw):=by simp[QY,e]
 obtain⟨t1,t2,t3,t4,t5⟩:=S2 he;obtain⟨p1,p2,p3,p4,p5⟩:=F8 hp;have gj:=L0 p1 p2;rw[e,e2];refine⟨([],0),⟨rfl,rfl,rfl⟩,?_⟩;refine LoopP.count2 rows.length (λk xs=>xs=(rows.take k).map (ZF lw)) (by simp) λk xs hk hJ q hq=>?_;have fp:xs.length=k:=by rw[hJ];simp;omega
 dsimp only;refine⟨λao=>?_,λbZ=>?_⟩
 .have ao:k<rows.length:=by omega
  have hr:=p5 _ (zl ao);simp only[ze,Qc ao,xt];refine⟨by omega,by omega,⟨h1,hr.1,by omega,λx hx=>by have:=t5 x hx;omega⟩,by omega,by omega,(xs++[ZF lw rows[k]],(k:Int)+1),⟨rfl,rfl,by simp⟩,hq _ ao ?_⟩;rw[ZG ao,xd,<-hJ];rfl
 .have:k=rows.length:=by omega
  subst this;rw[List.take_length] at hJ;rw[hJ];exact⟨rfl,rfl,rfl⟩
def Z4e:XSp:=λ_ _ _ _=>False
theorem Q8o {P:Program}{f:Nat}:XOk P f Z4e:=λ_ _ _ _ _ _ _ _ _ _ _ _ _ _ hx _=>hx.elim
theorem J0f {a b:Nat}(ha:a<2 ^ 62) (hb:b<2 ^ 62):QB .xor .i64 (a:Int) (b:Int)=((a ^^^ b:Nat):Int):=by
 have e:(BitVec.ofInt 64 ((a:Nat):Int) ^^^ BitVec.ofInt 64 ((b:Nat):Int)).toNat=a ^^^ b:=by rw[BitVec.toNat_xor,BitVec.toNat_ofInt,BitVec.toNat_ofInt];congr 1<;>omega
 have ao:a ^^^ b<2 ^ 62:=Nat.xor_lt_two_pow ha hb;show IntKind.wrap .i64 ((BitVec.ofInt 64 ((a:Nat):Int) ^^^ BitVec.ofInt 64 ((b:Nat):Int)).toNat:Int)=_;rw[e];generalize a ^^^ b=c at *
 simp[IntKind.wrap,IntKind.bits,IntKind.signed];omega
theorem Z9f {a b:Nat}(ha:a<2 ^ 62) (hb:b<2 ^ 62):QB .or .i64 (a:Int) (b:Int)=((a ||| b:Nat):Int):=by
 have e:(BitVec.ofInt 64 ((a:Nat):Int) ||| BitVec.ofInt 64 ((b:Nat):Int)).toNat=a ||| b:=by rw[BitVec.toNat_or,BitVec.toNat_ofInt,BitVec.toNat_ofInt];congr 1<;>omega
 have ao:a ||| b<2 ^ 62:=Nat.or_lt_two_pow ha hb
 show IntKind.wrap .i64 ((BitVec.ofInt 64 ((a:Nat):Int) ||| BitVec.ofInt 64 ((b:Nat):Int)).toNat:Int)=_;rw[e];generalize a ||| b=c at *
 simp[IntKind.wrap,IntKind.bits,IntKind.signed];omega
theorem J2n {a b:Nat}(ha:a<2 ^ 62) (hb:b<2 ^ 62):QB .and .i64 (a:Int) (b:Int)=((a &&& b:Nat):Int):=by
 have e:(BitVec.ofInt 64 ((a:Nat):Int) &&& BitVec.ofInt 64 ((b:Nat):Int)).toNat=a &&& b:=by rw[BitVec.toNat_and,BitVec.toNat_ofInt,BitVec.toNat_ofInt];congr 1<;>omega
 have ao:a &&& b<=a:=Nat.and_le_left;show IntKind.wrap .i64 ((BitVec.ofInt 64 ((a:Nat):Int) &&& BitVec.ofInt 64 ((b:Nat):Int)).toNat:Int)=_;rw[e];generalize a &&& b=c at *
 simp[IntKind.wrap,IntKind.bits,IntKind.signed];omega
theorem J2e {a:Nat}{h:Int}(h0:0<=h) (h1:h<=62):YN .i64 (a:Int) h=((a*2 ^ h.toNat:Nat):Int):=by unfold YN;rw[show Nat.min h.toNat (IntKind.bits .i64)=h.toNat from wq (show h.toNat<=64 by omega)];push_cast;rfl
theorem Q5z {h:Int}(h0:0<=h) (h1:h<=62):YN .i64 1 h=((2 ^ h.toNat:Nat):Int):=by have:=J2e (a:=1) h0 h1;rw[xD] at this;exact this
theorem J2p {x i:Nat}(hi:i<=64):UH .i64 (x:Int) (i:Int)=((x >>> i:Nat):Int):=by have:Nat.min i 64=i:=wq hi;simp only[UH,ze,IntKind.bits,this];rw[zV,Int.fdiv_eq_ediv_of_nonneg _ (Int.le_of_lt (Int.pow_pos (by omega)))];norm_cast
theorem Z2h {h:Nat}(h1:h<=24):2 ^ h<=2 ^ 24:=Nat.pow_le_pow_right (by omega) h1
theorem Q68 {row r h:Nat}(dV:row<2 ^ h) (hh:h<=24) (hr:r<2 ^ 24):QB .or .i64 (YN .i64 (row:Int) 1) (QB .and .i64 (UH .i64 (r:Int) (h:Int)) 1)=((row*2+(if r.testBit h then 1 else 0):Nat):Int)/\InK .i64 (YN .i64 (row:Int) 1):=by
 have e1:YN .i64 (row:Int) 1=((row*2:Nat):Int):=by have:=J2e (a:=row) (h:=1) (by omega) (by omega);simpa using this
 have hp:=Z2h hh;have hs:r >>> h<=r:=by rw[zV];exact Nat.div_le_self _ _
 rw[e1,J2p (by omega),show (1:Int)=((1:Nat):Int) from rfl,J2n (by omega) (by omega)];have eb:r >>> h &&& 1=if r.testBit h then 1 else 0:=by rw[Nat.testBit,Nat.and_comm 1,Nat.and_one_is_mod];rcases Nat.mod_two_eq_zero_or_one (r >>> h) with e|e<;>rw[e]<;>rfl
 rw[eb];have hb:(if r.testBit h then 1 else 0)<2 ^ 1:=by split<;>omega
 generalize (if r.testBit h then 1 else 0)=b at *
 rw[Z9f (by omega) (by omega)];refine⟨?_,by rw[Qf];omega⟩;congr 1;have:=Nat.two_pow_add_eq_or_of_lt hb row;rw[wx row 2];simp at this;omega
theorem OY (n r:Nat):∀ h,Z1l n r h<2 ^ h
 |0=>by simp[Z1l]
 |h+1=>by have:=OY n r h;rw[Z1l,Nat.pow_succ];split<;>omega
def Q4b (h:Nat) (up:Bool) (r:Int):Int:=((if up then r.toNat ||| 2 ^ h else (r.toNat ||| 2 ^ h) ^^^ 2 ^ h:Nat):Int)
theorem Z41 {r h:Int}(hr:0<=r/\r<2 ^ 24) (h0:0<=h) (h1:h<24):QB .or .i64 r (YN .i64 1 h)=((r.toNat ||| 2 ^ h.toNat:Nat):Int):=by obtain⟨n,rfl⟩:=zA hr.1;have:=Z2h (h:=h.toNat) (by omega);rw[Q5z h0 (by omega),Z9f (by omega) (by omega)];rfl
theorem Q54 {r h:Int}(hr:0<=r/\r<2 ^ 24) (h0:0<=h) (h1:h<24):QB .xor .i64 r (YN .i64 1 h)=((r.toNat ^^^ 2 ^ h.toNat:Nat):Int):=by obtain⟨n,rfl⟩:=zA hr.1;have:=Z2h (h:=h.toNat) (by omega);rw[Q5z h0 (by omega),J0f (by omega) (by omega)];rfl
theorem OK {h:Int}(h0:0<=h) (h1:h<24):InK .i64 (YN .i64 1 h):=by
 have:=Z2h (h:=h.toNat) (by omega);rw[Q5z h0 (by omega),Qf];generalize 2 ^ h.toNat=y at *
 omega
theorem Kw (n:Nat):(2:Int) ^ n=((2 ^ n:Nat):Int):=by push_cast;rfl
theorem Z5n {H:Nat}{h:Nat}(hH:h<H) {up:Bool}{r:Int}(hr:0<=r/\r<2 ^ H):0<=Q4b h up r/\Q4b h up r<2 ^ H:=by
 have hp:2 ^ h<2 ^ H:=Nat.pow_lt_pow_right (by omega) hH;have hn:r.toNat<2 ^ H:=by have:=Kw H;omega
 have h1:r.toNat ||| 2 ^ h<2 ^ H:=Nat.or_lt_two_pow hn hp
 have h2:(r.toNat ||| 2 ^ h) ^^^ 2 ^ h<2 ^ H:=Nat.xor_lt_two_pow h1 hp;unfold Q4b;have:=Kw H;cases up<;>simp only[zq,if_false,zr]<;>omega
theorem Ab {hd:Int}{rows lw:List Int}{d:Dmg}(h:BK hd rows lw d=true):1<=d.1/\d.1<=5/\0<=d.2.1/\d.2.1<rows.length/\0<=d.2.2.1/\d.2.2.1<hd/\0<=d.2.2.2.1/\d.2.2.2.1<lw.length:=by unfold BK inI at h;simp only[z0,zf] at h;omega
theorem NR {hk:Int}{lw:List Int}{hd:Int}{rows:List Int}(h:Q6 hk lw hd rows=0):Xr hk lw=0/\hd=hk/\1<=hd/\hd<=24/\1<=rows.length/\rows.length<=60/\∀ x∈rows,0<=x/\x<2 ^ hd.toNat:=by
 unfold Q6 at h;split at h
 .exact(absurd h ‹_›)
 .rename_i h1;split at h
  .exact(absurd h ‹_›)
  .rename_i h2;split at h
   .cases h
   .have h2:Q4 hd rows=0:=by omega
    unfold Q4 at h2;split at h2
    .cases h2
    .rename_i h3;split at h2
     .cases h2
     .split at h2
      .cases h2
      .split at h2
       .cases h2
       .rename_i h4;have h3:inI hd 1 24=true:=by simpa using h3
        unfold inI at h3;simp only[z0,zf] at h3;refine⟨by omega,by omega,h3.1,h3.2,by omega,by omega,λx hx=>?_⟩;have:inI x 0 (2 ^ hd.toNat-1)=true:=by
         have h5:(rows.any λx=>!inI x 0 (2 ^ hd.toNat-1))=false:=by simpa using h4
         have:=xw.1 h5 x hx;simpa using this
        unfold inI at this;simp only[z0,zf] at this;omega
theorem Z5e {hk:Int}{lw:List Int}{hd:Int}{rows:List Int}(h0:Xr hk lw=0) (h1:hd=hk) (h2:1<=hd) (h3:hd<=24) (h4:1<=rows.length) (h5:rows.length<=60) (h6:∀ x∈rows,0<=x/\x<2 ^ hd.toNat):Q6 hk lw hd rows=0:=by
 have e1:inI hd 1 24=true:=by simp[inI];omega
 have e2:(rows.any λx=>!inI x 0 (2 ^ hd.toNat-1))=false:=by
  rw[xw];intro x hx;have:=h6 x hx;have e3:inI x 0 (2 ^ hd.toNat-1)=true:=by unfold inI;simp only[z0,zf];omega
  rw[e3];simp
 have e4:Q4 hd rows=0:=by unfold Q4;rw[z6 (by rw[e1];simp),z6 (by omega),z6 (by omega),z6 (by rw[e2];simp)]
 unfold Q6;rw[z6 (by omega),z6 (by omega),z6 (by omega)]
theorem Q4n {hk:Int}{lw:List Int}{hd:Int}{rows:List Int}{d:Dmg}(h:Q6 hk lw hd rows=0) (dJ:BK hd rows lw d=true):Q6 hk lw hd (Hi hd rows d)=0/\(Hi hd rows d).length=rows.length:=by
 obtain⟨h0,h1,h2,h3,h4,h5,h6⟩:=NR h;obtain⟨d1,d2,d3,d4,d5,d6,d7,d8⟩:=Ab dJ;have gj:=Kw hd.toNat;have hg:∀ i,i<rows.length->0<=rows.getD i 0/\rows.getD i 0<2 ^ hd.toNat:=λi hi=>by rw[Qc hi];exact h6 _ (zl hi)
 have key:(Hi hd rows d).length=rows.length/\∀ x∈Hi hd rows d,0<=x/\x<2 ^ hd.toNat:=by
  have aW:∀ (l:List Int) (i:Nat) (v:Int),(∀ x∈l,0<=x/\x<2 ^ hd.toNat)->(0<=v/\v<2 ^ hd.toNat)->∀ x∈l.set i v,0<=x/\x<2 ^ hd.toNat:=λl i v hl hv x hx=>by
   rcases List.mem_or_eq_of_mem_set hx with h|h
   .exact hl x h
   .rw[h];exact hv
  unfold Hi;split
  .refine⟨by simp,aW _ _ _ h6 ?_⟩;have hp:2 ^ d.2.2.1.toNat<2 ^ hd.toNat:=Nat.pow_lt_pow_right (by omega) (by omega);have h7:=hg d.2.1.toNat (by omega);have:=Nat.xor_lt_two_pow (x:=(rows.getD d.2.1.toNat 0).toNat) (y:=2 ^ d.2.2.1.toNat) (n:=hd.toNat) (by omega) hp;omega
  .split
   .refine⟨by simp,λx hx=>?_⟩;obtain⟨r,hr,rfl⟩:=zC.1 hx;exact Z5n (up:=d.2.2.2.2) (by omega) (h6 r hr)
   .split
    .refine⟨by simp,aW _ _ _ h6 ?_⟩;have:=OY hd.toNat (rows.getD d.2.1.toNat 0).toNat hd.toNat;omega
    .split
     .refine⟨by simp,aW _ _ _ (aW _ _ _ h6 (hg _ (xJ _ (by omega)))) (hg _ (by omega))⟩
     .exact⟨rfl,h6⟩
 exact⟨Z5e h0 h1 h2 h3 (by omega) (by omega) key.2,key.1⟩
def TM (d:Dmg):List (Int×Bool):=if d.1=5 then [(d.2.2.2.1,true)] else []
theorem L5 (s:List UInt8):VM (s.map λ(b:UInt8)=>((b.toNat:Nat):Int))=s:=by
 unfold VM;rw[wG];conv=>rhs;rw[<-List.map_id s]
 exact xk λb _=>by simp[Function.comp]
theorem Q6k (s:List UInt8) (w:Nat):VM ((s.map λ(b:UInt8)=>((b.toNat:Nat):Int)).set w 46)=s.set w 46:=by have:=L5 s;unfold VM at this |-;rw[List.map_set,this];rfl
def PO {α:Type}(f:α->α) (l:List α) (n:Nat):List α:=(l.take n).map f++l.drop n
theorem Lc {α:Type}(f:α->α) (l:List α):PO f l 0=l:=by simp[PO]
theorem Fi {α:Type}(f:α->α) (l:List α):PO f l l.length=l.map f:=by simp[PO]
theorem By {α:Type}(f:α->α) (l:List α) (n:Nat):(PO f l n).length=l.length:=by simp[PO];omega
theorem Lv {α:Type}(f:α->α) (l:List α) (n:Nat) (d:α) (h:n<l.length):(PO f l n).getD n d=l.getD n d:=by
 unfold PO;have e:((l.take n).map f).length=n:=by simp;omega
 rw[zd,xn (by omega),e,wy,zd,zZ,z_]
theorem E_ {α:Type}(f:α->α) (l:List α) (n:Nat) (d:α) (h:n<l.length):(PO f l n).set n (f (l.getD n d))=PO f l (n+1):=by
 unfold PO;have e:((l.take n).map f).length=n:=by simp;omega
 rw[List.set_append_right _ _ (by omega),e,wy,ZG h,xd,xX h,List.set_cons_zero,Qc h];simp
theorem Kq {lw:List Int}{w:Nat}(hw:w<lw.length):lw.getD w 0∈lw:=by rw[Qc hw];exact zl hw
def pcN (n x:Nat):Nat:=((List.range n).filter λk=>x.testBit k).length
def swA (x:Nat):Nat:=((x >>> 1) &&& 6148914691236517205)+(x &&& 6148914691236517205)
def swB (x:Nat):Nat:=((x >>> 2) &&& 3689348814741910323)+(x &&& 3689348814741910323)
def swC (x:Nat):Nat:=((x >>> 4)+x) &&& 1085102592571150095
def swD (x:Nat):Nat:=x+(x >>> 8)
def swE (x:Nat):Nat:=x+(x >>> 16)
def swF (x:Nat):Nat:=x+(x >>> 32)
def swN (x:Nat):Nat:=swF (swE (swD (swC (swB (swA x))))) &&& 127
theorem Xg {h l M m k:Nat}(hl:l<2 ^ 8) (hk:k<=8) (hm:m<2 ^ (8-k)):((2 ^ 8*h+l) >>> k) &&& (2 ^ 8*M+m)=2 ^ 8*((h >>> k) &&& M)+((l >>> k) &&& m):=by
 have sj:m<2 ^ 8:=x3 hm (Nat.pow_le_pow_right (by omega) (by omega));refine Nat.eq_of_testBit_eq λj=>?_;have oU:(l >>> k) &&& m<2 ^ 8:=w8 Nat.and_le_right sj;rw[Nat.testBit_and,Nat.testBit_shiftRight,Nat.testBit_two_pow_mul_add _ hl,Nat.testBit_two_pow_mul_add _ sj,Nat.testBit_two_pow_mul_add _ oU];by_cases h1:j<8
 .rw[z7 h1,z7 h1,Nat.testBit_and,Nat.testBit_shiftRight];by_cases h2:k+j<8
  .rw[z7 h2]
  .have:m.testBit j=false:=Nat.testBit_lt_two_pow (x3 hm (Nat.pow_le_pow_right (by omega) (by omega)));rw[this,Bool.and_false,Bool.and_false]
 .rw[z6 h1,z6 h1,z6 (by omega),Nat.testBit_and,Nat.testBit_shiftRight];congr 2;omega
theorem Q6l {h l:Nat}(hl:l<2 ^ 8):swA (2 ^ 8*h+l)=2 ^ 8*(((h >>> 1) &&& 24019198012642645)+(h &&& 24019198012642645))+(((l >>> 1) &&& 85)+(l &&& 85)):=by
 have h1:=Xg (h:=h) (M:=24019198012642645) (m:=85) (k:=1) hl (by omega) (by decide);have h2:=Xg (h:=h) (M:=24019198012642645) (m:=85) (k:=0) hl (by omega) (by decide);rw[Nat.shiftRight_zero,Nat.shiftRight_zero,Nat.shiftRight_zero] at h2;have e:(6148914691236517205:Nat)=2 ^ 8*24019198012642645+85:=by decide
 unfold swA;rw[e,h1,h2,Nat.mul_add];omega
theorem Q5j {h l:Nat}(hl:l<2 ^ 8):swB (2 ^ 8*h+l)=2 ^ 8*(((h >>> 2) &&& 14411518807585587)+(h &&& 14411518807585587))+(((l >>> 2) &&& 51)+(l &&& 51)):=by
 have h1:=Xg (h:=h) (M:=14411518807585587) (m:=51) (k:=2) hl (by omega) (by decide);have h2:=Xg (h:=h) (M:=14411518807585587) (m:=51) (k:=0) hl (by omega) (by decide);rw[Nat.shiftRight_zero,Nat.shiftRight_zero,Nat.shiftRight_zero] at h2;have e:(3689348814741910323:Nat)=2 ^ 8*14411518807585587+51:=by decide
 unfold swB;rw[e,h1,h2,Nat.mul_add];omega
theorem Z2e:∀ b:Fin 256,∃ p q:Fin 5,swB (swA b.val)=16*q.val+p.val/\q.val+p.val=pcN 8 b.val:=by decide +kernel
theorem Ru (n x:Nat):pcN (n+1) x=pcN n x+(if x.testBit n then 1 else 0):=by
 unfold pcN;rw[List.range_succ,List.filter_append,zk];by_cases h:x.testBit n=true
 .simp[h]
 .simp[h]
theorem Z0g {h l:Nat}(hl:l<2 ^ 8):∀ n,n<=8->pcN n (2 ^ 8*h+l)=pcN n l
 |0,_=>rfl
 |n+1,hn=>by rw[Ru n (2 ^ 8*h+l),Ru n l,Z0g hl n (by omega),Nat.testBit_two_pow_mul_add _ hl,z7 (show n<8 by omega)]
theorem Sq {h l:Nat}(hl:l<2 ^ 8):∀ n,pcN (n+8) (2 ^ 8*h+l)=pcN n h+pcN 8 l
 |0=>by rw[zQ,Z0g hl 8 (z9 _)];simp[pcN]
 |n+1=>by rw[show n+1+8=(n+8)+1 by omega,Ru (n+8),Sq hl n,Ru n h,Nat.testBit_two_pow_mul_add _ hl,z6 (show ¬ n+8<8 by omega),Nat.add_sub_cancel];omega
theorem Q9y (n x:Nat):pcN n x<=n:=by have:=List.length_filter_le (λk=>x.testBit k) (List.range n);unfold pcN;simpa using this
theorem nib {a b c d e f:Nat}(ha:a<16) (hb:b<16) (hc:c<16) (hd:d<16) (he:e<16) (hf:f<16):(a+16*b+256*c+4096*d+65536*e+1048576*f) &&& 1085102592571150095=a+256*c+65536*e:=by
 have key:∀ {m:Nat}(h l M:Nat),l<2 ^ 4->m<2 ^ 4->(2 ^ 4*h+l) &&& (2 ^ 4*M+m)=2 ^ 4*(h &&& M)+(l &&& m):=λ{m} h l M hl hm=>by
  refine Nat.eq_of_testBit_eq λj=>?_;have oU:l &&& m<2 ^ 4:=w8 Nat.and_le_right hm;rw[Nat.testBit_and,Nat.testBit_two_pow_mul_add _ hl,Nat.testBit_two_pow_mul_add _ hm,Nat.testBit_two_pow_mul_add _ oU];by_cases h1:j<4
  .rw[z7 h1,z7 h1,z7 h1,Nat.testBit_and]
  .rw[z6 h1,z6 h1,z6 h1,Nat.testBit_and]
 have k0:=key (m:=15) (b+16*c+256*d+4096*e+65536*f) a 67818912035696880 (by omega) (by decide);have k1:=key (m:=0) (c+16*d+256*e+4096*f) b 4238682002231055 (by omega) (by decide);have k2:=key (m:=15) (d+16*e+256*f) c 264917625139440 (by omega) (by decide);have k3:=key (m:=0) (e+16*f) d 16557351571215 (by omega) (by decide);have k4:=key (m:=15) f e 1034834473200 (by omega) (by decide);have k5:=key (m:=0) 0 f 64677154575 (by omega) (by decide);have an:∀ x:Nat,x<16->x &&& 15=x:=λx hx=>by rw[show (15:Nat)=2 ^ 4-1 by decide,Nat.and_two_pow_sub_one_eq_mod];omega
 rw[Nat.and_zero,Nat.zero_and] at k5;rw[an e he] at k4;rw[Nat.and_zero] at k3;rw[an c hc] at k2;rw[Nat.and_zero] at k1;rw[an a ha] at k0;have e0:a+16*b+256*c+4096*d+65536*e+1048576*f=2 ^ 4*(b+16*c+256*d+4096*e+65536*f)+a:=by omega
 have e1:b+16*c+256*d+4096*e+65536*f=2 ^ 4*(c+16*d+256*e+4096*f)+b:=by omega
 have e2:c+16*d+256*e+4096*f=2 ^ 4*(d+16*e+256*f)+c:=by omega
 have e3:d+16*e+256*f=2 ^ 4*(e+16*f)+d:=by omega
 have e4:e+16*f=2 ^ 4*f+e:=by omega
 have e5:f=2 ^ 4*0+f:=by omega
 have m0:(1085102592571150095:Nat)=2 ^ 4*67818912035696880+15:=by decide
 have m1:(67818912035696880:Nat)=2 ^ 4*4238682002231055+0:=by decide
 have m2:(4238682002231055:Nat)=2 ^ 4*264917625139440+15:=by decide
 have m3:(264917625139440:Nat)=2 ^ 4*16557351571215+0:=by decide
 have m4:(16557351571215:Nat)=2 ^ 4*1034834473200+15:=by decide
 have m5:(1034834473200:Nat)=2 ^ 4*64677154575+0:=by decide
 have r4:f &&& 1034834473200=0:=by
  have:(2 ^ 4*0+f) &&& (2 ^ 4*64677154575+0)=0:=by rw[k5]
  rwa [<-m5,Nat.mul_zero,zQ] at this
 rw[r4] at k4;rw[e0,m0,k0,e1,m1,k1,e2,m2,k2,e3,m3,k3,e4,m4,k4];omega
theorem Gw {x M m:Nat}(hx:x<256) (h:M % 256=m):x &&& M=x &&& m:=by
 refine Nat.eq_of_testBit_eq λj=>?_;rw[Nat.testBit_and,Nat.testBit_and,<-h,show 256=2 ^ 8 by decide,Nat.testBit_mod_two_pow];by_cases h1:j<8
 .simp[h1]
 .have:x.testBit j=false:=Nat.testBit_lt_two_pow (x3 hx (by rw[show 256=2 ^ 8 by decide];exact Nat.pow_le_pow_right (by omega) (by omega)));simp[this]
theorem Q1f {b:Nat}(h:b<256):swA b=((b >>> 1) &&& 85)+(b &&& 85):=by unfold swA;rw[Gw (m:=85) h (by decide),Gw (m:=85) (x:=b >>> 1) (by rw[zV];omega) (by decide)]
theorem Q5k {b:Nat}(h:b<256):swB b=((b >>> 2) &&& 51)+(b &&& 51):=by unfold swB;rw[Gw (m:=51) h (by decide),Gw (m:=51) (x:=b >>> 2) (by rw[zV];omega) (by decide)]
theorem Q4z {b0 b1 b2:Nat}(h0:b0<256) (h1:b1<256) (h2:b2<256):swB (2 ^ 8*(2 ^ 8*b2+b1)+b0)=2 ^ 8*(2 ^ 8*swB b2+swB b1)+swB b0:=by have a0:=Q5j (h:=2 ^ 8*b2+b1) (l:=b0) (by omega);have a1:=Xg (h:=b2) (l:=b1) (M:=56294995342131) (m:=51) (k:=2) (by omega) (by omega) (by decide);have a2:=Xg (h:=b2) (l:=b1) (M:=56294995342131) (m:=51) (k:=0) (by omega) (by omega) (by decide);rw[Nat.shiftRight_zero,Nat.shiftRight_zero,Nat.shiftRight_zero,show 2 ^ 8*56294995342131+51=14411518807585587 by decide] at a2;rw[show 2 ^ 8*56294995342131+51=14411518807585587 by decide] at a1;rw[a0,a1,a2,Q5k h0,Q5k h1,Q5k h2,Gw (M:=56294995342131) (m:=51) h2 (by decide),Gw (M:=56294995342131) (m:=51) (x:=b2 >>> 2) (by rw[zV];omega) (by decide)];omega
theorem Q6s {b:Nat}(h:b<256):swA b<256:=by rw[Q1f h];have h1:(b >>> 1) &&& 85<=85:=Nat.and_le_right;have h2:b &&& 85<=85:=Nat.and_le_right;omega
theorem Z5b {x:Nat}(h:x<16777216):swN x=pcN 24 x:=by
 obtain⟨b0,b1,b2,h0,h1,h2,rfl⟩:∃ b0 b1 b2,b0<256/\b1<256/\b2<256/\x=2 ^ 8*(2 ^ 8*b2+b1)+b0:=⟨x % 256,x / 256 % 256,x / 65536,by omega,by omega,by omega,by omega⟩;obtain⟨p0,q0,e0,s0⟩:=Z2e ⟨b0,h0⟩;obtain⟨p1,q1,e1,s1⟩:=Z2e ⟨b1,h1⟩;obtain⟨p2,q2,e2,s2⟩:=Z2e ⟨b2,h2⟩;dsimp only at e0 e1 e2 s0 s1 s2;have hp:pcN 24 (2 ^ 8*(2 ^ 8*b2+b1)+b0)=pcN 8 b2+pcN 8 b1+pcN 8 b0:=by rw[show 24=(8+8)+8 by omega,Sq (by omega),Sq (by omega)]
 have hA:swA (2 ^ 8*(2 ^ 8*b2+b1)+b0)=2 ^ 8*(2 ^ 8*swA b2+swA b1)+swA b0:=by have a0:=Q6l (h:=2 ^ 8*b2+b1) (l:=b0) (by omega);have a1:=Xg (h:=b2) (l:=b1) (M:=93824992236885) (m:=85) (k:=1) (by omega) (by omega) (by decide);have a2:=Xg (h:=b2) (l:=b1) (M:=93824992236885) (m:=85) (k:=0) (by omega) (by omega) (by decide);rw[Nat.shiftRight_zero,Nat.shiftRight_zero,Nat.shiftRight_zero,show 2 ^ 8*93824992236885+85=24019198012642645 by decide] at a2;rw[show 2 ^ 8*93824992236885+85=24019198012642645 by decide] at a1;rw[a0,a1,a2,Q1f h0,Q1f h1,Q1f h2,Gw (M:=93824992236885) (m:=85) h2 (by decide),Gw (M:=93824992236885) (m:=85) (x:=b2 >>> 1) (by rw[zV];omega) (by decide)];omega
 have hz:swB (swA (2 ^ 8*(2 ^ 8*b2+b1)+b0))=65536*(16*q2.val+p2.val)+256*(16*q1.val+p1.val)+(16*q0.val+p0.val):=by rw[hA,Q4z (Q6s h0) (Q6s h1) (Q6s h2),e0,e1,e2];omega
 rw[hp,<-s0,<-s1,<-s2];unfold swN;rw[hz];have qK:=p0.isLt;have kJ:=p1.isLt;have dS:=p2.isLt;have v5:=q0.isLt;have oV:=q1.isLt;have rM:=q2.isLt;generalize p0.val=u0 at *;generalize p1.val=u1 at *;generalize p2.val=u2 at *
 generalize q0.val=v0 at *;generalize q1.val=v1 at *;generalize q2.val=v2 at *
 have hC:swC (65536*(16*v2+u2)+256*(16*v1+u1)+(16*v0+u0))=(v0+u0)+256*(v1+u1)+65536*(v2+u2):=by have:=nib (a:=v0+u0) (b:=u1+v0) (c:=v1+u1) (d:=u2+v1) (e:=v2+u2) (f:=v2) (by omega) (by omega) (by omega) (by omega) (by omega) (by omega);unfold swC;rw[<-this,zV];congr 1;omega
 rw[hC,show (127:Nat)=2 ^ 7-1 by decide,Nat.and_two_pow_sub_one_eq_mod];unfold swF swE swD;simp only[zV];obtain⟨w0,k0,l0⟩:∃ w,v0+u0=w/\w<=8:=⟨_,rfl,by omega⟩;obtain⟨w1,k1,l1⟩:∃ w,v1+u1=w/\w<=8:=⟨_,rfl,by omega⟩;obtain⟨w2,k2,l2⟩:∃ w,v2+u2=w/\w<=8:=⟨_,rfl,by omega⟩;rw[k0,k1,k2];clear hz hC hp hA e0 e1 e2 s0 s1 s2;have d1:(w0+256*w1+65536*w2) / 2 ^ 8=w1+256*w2:=by omega
 rw[d1];have d2:(w0+256*w1+65536*w2+(w1+256*w2)) / 2 ^ 16=w2:=by omega
 rw[d2];have d3:(w0+256*w1+65536*w2+(w1+256*w2)+w2) / 2 ^ 32=0:=by omega
 rw[d3];omega
def DZ (ds:List (Int×List Int)):Int:=match ds.find? (λd=>decide (Q4 d.1 d.2≠0)) with|some d=>Q4 d.1 d.2|none=>0
theorem An (a b:Int×List Int):DZ [a,b]=if Q4 a.1 a.2≠0 then Q4 a.1 a.2 else Q4 b.1 b.2:=by unfold DZ;by_cases h1:Q4 a.1 a.2=0<;>by_cases h2:Q4 b.1 b.2=0<;>simp[h1,h2]
def tzK:Nat->Nat->Nat
 |0,_=>0
 |f+1,n=>if n % 2=1 then 0 else 1+tzK f (n / 2)
def tzN (n:Nat):Nat:=if n=0 then 64 else tzK 64 n
theorem Q0q:∀ f n,0<n->n<2 ^ f->tzK f n<f/\∃ m,n=2 ^ tzK f n*(2*m+1)
 |0,n,h0,h1=>by simp at h1;omega
 |f+1,n,h0,h1=>by
  unfold tzK;split
  .rename_i h;exact⟨by omega,n / 2,by omega⟩
  .rename_i h;have hp:2 ^ (f+1)=2*2 ^ f:=by rw[Nat.pow_succ];omega
   obtain⟨h2,m,h3⟩:=Q0q f (n / 2) (by omega) (by omega);refine⟨by omega,m,?_⟩;rw[xY,Nat.pow_succ,wx (2 ^ _) 2,Nat.mul_assoc,<-h3];omega
theorem G_ {n:Nat}(h0:0<n) (h1:n<2 ^ 64):tzN n<64/\∃ m,n=2 ^ tzN n*(2*m+1):=by unfold tzN;rw[z6 (by omega)];exact Q0q 64 n h0 h1
theorem Ip {t m:Nat}(i:Nat):(2 ^ t*(2*m+1)-1).testBit i=if i<t then true else if i=t then false else (2 ^ t*(2*m+1)).testBit i:=by
 have hp:0<2 ^ t:=Nat.two_pow_pos t;have e:2 ^ t*(2*m+1)-1=2 ^ t*(2*m)+(2 ^ t-1):=by rw[Nat.mul_add,wA];omega
 rw[e,Nat.testBit_two_pow_mul_add _ (by omega)];split
 .rename_i h;rw[Nat.testBit_two_pow_sub_one];simpa using h
 .rename_i h;split
  .rename_i h2;subst h2;simp
  .rename_i h2;rw[Nat.testBit_two_pow_mul];obtain⟨k,hk⟩:∃ k,i-t=k+1:=⟨i-t-1,by omega⟩;have hd:decide (i>=t)=true:=xe (by omega);rw[hd,hk,Nat.testBit_succ,Nat.testBit_succ,Bool.true_and];congr 1;omega
theorem Z1r {n:Nat}(h0:0<n) (h1:n<2 ^ 64):n &&& (2 ^ 64-n)=2 ^ tzN n:=by
 obtain⟨ht,m,hm⟩:=G_ h0 h1;generalize tzN n=t at *
 refine Nat.eq_of_testBit_eq λi=>?_;have e:2 ^ 64-n=2 ^ 64-((n-1)+1):=by omega
 rw[Nat.testBit_and,e,Nat.testBit_two_pow_sub_succ (by omega),Nat.testBit_two_pow,hm,Ip];by_cases h2:i<t
 .rw[z7 h2,Nat.testBit_two_pow_mul,xc (show ¬ i>=t by omega),xc (show ¬ t=i by omega)];rfl
 .rw[z6 h2];by_cases h3:i=t
  .subst h3;rw[z7 rfl,Nat.testBit_two_pow_mul];simp;omega
  .rw[z6 h3,xc (show ¬ t=i by omega)];cases (2 ^ t*(2*m+1)).testBit i<;>simp
theorem Z5f:∀ t:Nat,t<64->Go.V.t64[(2 ^ t*285870213051353865 % 18446744073709551616) / 288230376151711744]?=some (t:Int):=by decide +kernel
theorem RF {a b:Nat}(ha:a<2 ^ 64) (hb:b<2 ^ 64):QB .and .u64 (a:Int) (b:Int)=((a &&& b:Nat):Int):=by
 have e:(BitVec.ofInt 64 ((a:Nat):Int) &&& BitVec.ofInt 64 ((b:Nat):Int)).toNat=a &&& b:=by rw[BitVec.toNat_and,BitVec.toNat_ofInt,BitVec.toNat_ofInt];congr 1<;>omega
 have ao:a &&& b<2 ^ 64:=w8 Nat.and_le_left ha;show IntKind.wrap .u64 ((BitVec.ofInt 64 ((a:Nat):Int) &&& BitVec.ofInt 64 ((b:Nat):Int)).toNat:Int)=_;rw[e];simp[IntKind.wrap,IntKind.bits,IntKind.signed];omega
theorem EV {x i:Nat}(hi:i<=64):UH .u64 x i=((x >>> i:Nat):Int):=by have:Nat.min i 64=i:=wq hi;simp only[UH,ze,IntKind.bits,this];rw[zV,Int.fdiv_eq_ediv_of_nonneg _ (Int.le_of_lt (Int.pow_pos (by omega)))];norm_cast
theorem SS (y k:Nat):y >>> k<=y:=by rw[zV];exact Nat.div_le_self _ _
theorem opA {y:Nat}(h:y<2 ^ 60):QB .and .u64 (UH .u64 (y:Int) 1) 6148914691236517205+QB .and .u64 (y:Int) 6148914691236517205=((swA y:Nat):Int)/\swA y<=2*y:=by have h1:=SS y 1;have e1:UH .u64 (y:Int) 1=((y >>> 1:Nat):Int):=EV (i:=1) (by omega);have e2:=RF (a:=y >>> 1) (b:=6148914691236517205) (by omega) (by omega);have e3:=RF (a:=y) (b:=6148914691236517205) (by omega) (by omega);have l1:y >>> 1 &&& 6148914691236517205<=y >>> 1:=Nat.and_le_left;have l2:y &&& 6148914691236517205<=y:=Nat.and_le_left;exact⟨by rw[e1];exact(congr (congrArg HAdd.hAdd e2) e3).trans (wD _ _).symm,by unfold swA;omega⟩
theorem opB {y:Nat}(h:y<2 ^ 60):QB .and .u64 (UH .u64 (y:Int) 2) 3689348814741910323+QB .and .u64 (y:Int) 3689348814741910323=((swB y:Nat):Int)/\swB y<=2*y:=by have h1:=SS y 2;have e1:UH .u64 (y:Int) 2=((y >>> 2:Nat):Int):=EV (i:=2) (by omega);have e2:=RF (a:=y >>> 2) (b:=3689348814741910323) (by omega) (by omega);have e3:=RF (a:=y) (b:=3689348814741910323) (by omega) (by omega);have l1:y >>> 2 &&& 3689348814741910323<=y >>> 2:=Nat.and_le_left;have l2:y &&& 3689348814741910323<=y:=Nat.and_le_left;exact⟨by rw[e1];exact(congr (congrArg HAdd.hAdd e2) e3).trans (wD _ _).symm,by unfold swB;omega⟩
theorem opC {y:Nat}(h:y<2 ^ 60):QB .and .u64 (UH .u64 (y:Int) 4+(y:Int)) 1085102592571150095=((swC y:Nat):Int)/\swC y<=2*y/\UH .u64 (y:Int) 4+(y:Int)=((y >>> 4+y:Nat):Int):=by
 have h1:=SS y 4;have e1:UH .u64 (y:Int) 4=((y >>> 4:Nat):Int):=EV (i:=4) (by omega);have e2:=RF (a:=y >>> 4+y) (b:=1085102592571150095) (by omega) (by omega);have l1:(y >>> 4+y) &&& 1085102592571150095<=y >>> 4+y:=Nat.and_le_left;have e3:UH .u64 (y:Int) 4+(y:Int)=((y >>> 4+y:Nat):Int):=by rw[e1];exact(wD _ _).symm
 exact⟨by rw[e3];exact e2,by unfold swC;omega,e3⟩
theorem opS {y k:Nat}(hk:k<=64):(y:Int)+UH .u64 (y:Int) (k:Int)=((y+y >>> k:Nat):Int)/\y+y >>> k<=2*y:=by have h1:=SS y k;exact⟨by rw[EV hk];exact(wD _ _).symm,by omega⟩
theorem Lt {n:Nat}(h0:0<n) (h1:n<2 ^ 64) (i:Nat):(n &&& (n-1)).testBit i=(n.testBit i&&!decide (i=tzN n)):=by
 obtain⟨ht,m,hm⟩:=G_ h0 h1;generalize tzN n=t at *
 rw[Nat.testBit_and,hm,Ip];by_cases h2:i<t
 .rw[z7 h2,xc (by omega)];simp
 .rw[z6 h2];by_cases h3:i=t
  .rw[z7 h3,xe h3];simp
  .rw[z6 h3,xc h3];simp
def Q1i:Nat->Nat->List Int
 |0,_=>[]
 |f+1,n=>if n=0 then [] else (tzN n:Int)::Q1i f (n &&& (n-1))
def WR (n:Nat):List Int:=Q1i n n
theorem IC:∀ f g n,n<=f->n<=g->Q1i f n=Q1i g n
 |0,g,n,h1,_=>by
  have:n=0:=by omega
  subst this;cases g<;>simp[Q1i]
 |f+1,0,n,_,h2=>by
  have:n=0:=by omega
  subst this;simp[Q1i]
 |f+1,g+1,n,h1,h2=>by
  unfold Q1i;by_cases h:n=0
  .rw[z7 h,z7 h]
  .rw[z6 h,z6 h];have:=Nat.and_le_right (n:=n) (m:=n-1);rw[IC f g _ (by omega) (by omega)]
theorem Q50 {n:Nat}(h:0<n):WR n=(tzN n:Int)::WR (n &&& (n-1)):=by
 have:=Nat.and_le_right (n:=n) (m:=n-1);unfold WR;obtain⟨f,rfl⟩:∃ f,n=f+1:=⟨n-1,by omega⟩;conv=>lhs;unfold Q1i
 rw[z6 (by omega),IC f _ _ (by omega) (z9 _)]
theorem Q56:WR 0=[]:=rfl
def czT:VCode :=
 .seq (.region [
  ⟨(some 2),.move (.const (.int .i64 (0))),none⟩])
 (.seq (.seq (.region [
  ⟨(some 3),.move (.tmp 0),none⟩,
  ⟨(some 4),.cmp .eql (.tmp 3) (.const (.int .u64 (0))),none⟩])
 (.cond (.tmp 4) (.seq (.region [
   ⟨(some 2),.move (.const (.int .i64 (64))),none⟩])
  (.ret))
  (.skip)))
 (.seq (.region [
  ⟨(some 5),.move (.tmp 0),none⟩,
  ⟨(some 6),.move (.tmp 0),none⟩,
  ⟨(some 7),.un .neg (.tmp 6),none⟩,
  ⟨(some 8),.bits .and (.tmp 5) (.tmp 7),none⟩,
  ⟨(some 9),.arith .mul (.tmp 8) (.const (.int .u64 (285870213051353865))),none⟩,
  ⟨(some 10),.shift .shr (.tmp 9) (.const (.int .u64 (58))),none⟩,
  ⟨(some 11),.indexAddrArr 64 1 (.global 0) (.tmp 10),none⟩,
  ⟨(some 12),.load false 1 (.tmp 11),none⟩,
  ⟨(some 13),.convI .i64 (.tmp 12),none⟩,
  ⟨(some 2),.move (.tmp 13),none⟩])
 (.ret)))
theorem Ug {S:VSpecs}{op:VOp}{d:Option Nat}{l:List VOper}{env:Env}{U:Heap}{K:Env->Heap->Prop}(v:Value) (h:∀ Q:Value->Heap->Prop,Q v U->vop S op env U Q) (hK:SQ S l (Ww env d v) U K):SQ S (⟨d,op,none⟩::l) env U K:=by show vif true _ _;exact⟨λ_=>h _ hK,λh=>by cases h⟩
theorem Z1p {S:VSpecs}{op:BinOp}{x y:Operand}{env:Env}{U:Heap}{Q:Value->Heap->Prop}{k:IntKind}{a b:Int}(hx:Q5 env x=.int k a) (hy:Q5 env y=.int k b) (h:Q (.bool (Z3h op a b)) U):vop S (.cmp op x y) env U Q:=by simp only[vop,Q7,hx,hy,zq,Zt];exact h
theorem Q8i {S:VSpecs}{op:BinOp}{x y:Operand}{env:Env}{U:Heap}{Q:Value->Heap->Prop}{k:IntKind}{a b:Int}(hx:Q5 env x=.int k a) (hy:Q5 env y=.int k b) (h:Q (.int k (QB op k a b)) U):vop S (.bits op x y) env U Q:=by simp only[vop,Q7,hx,hy,zq,Zt];exact h
theorem Q4k {S:VSpecs}{op:BinOp}{x y:Operand}{env:Env}{U:Heap}{Q:Value->Heap->Prop}{k:IntKind}{a b:Int}(hx:Q5 env x=.int k a) (hy:Q5 env y=.int k b) (h:Q (.int k (TI op k a b)) U):vop S (.arith op x y) env U Q:=by simp only[vop,Q7,hx,hy,zq,Zt];exact h
theorem Q4y {S:VSpecs}{op:BinOp}{x y:Operand}{env:Env}{U:Heap}{Q:Value->Heap->Prop}{k k':IntKind}{a b:Int}(hx:Q5 env x=.int k a) (hy:Q5 env y=.int k' b) (h0:0<=b) (h:Q (.int k (T8 op k a b)) U):vop S (.shift op x y) env U Q:=by simp only[vop,Q7,hx,hy,h0,zq,Zt];exact h
theorem Q8q {S:VSpecs}{x:Operand}{env:Env}{U:Heap}{Q:Value->Heap->Prop}{k k':IntKind}{a:Int}(hx:Q5 env x=.int k a) (h:Q (.int k' (k'.wrap a)) U):vop S (.convI k' x) env U Q:=by simp only[vop,Q7,hx,Zt];exact h
theorem Z13 {S:VSpecs}{len size g o s:Nat}{x y:Operand}{env:Env}{U:Heap}{Q:Value->Heap->Prop}{k':IntKind}{b:Int}(hx:Q5 env x=.pointer (some ⟨g,o,some s⟩)) (hy:Q5 env y=.int k' b) (h0:0<=b/\b<len) (h:Q (.pointer (some ⟨g,o+b.toNat*size,some s⟩)) U):vop S (.indexAddrArr len size x y) env U Q:=by simp only[vop,Q7,hx,hy,h0,wJ,zq,Zt];exact h
theorem Q94 {S:VSpecs}{size g o s:Nat}{agg:Bool}{x:Operand}{env:Env}{U:Heap}{Q:Value->Heap->Prop}{c:List Value}{v:Value}(hx:Q5 env x=.pointer (some ⟨g,o,some s⟩)) (hg:Q7e g=some c) (hp:c.all Zy=true) (hv:YK agg size c o=some v) (h:Q v U):vop S (.load agg size x) env U Q:=by simp only[vop,Q7,hx,hg,hp,hv,zq,Zt];exact h
theorem Fw (x:Int):IntKind.wrap .u64 x=x % 18446744073709551616:=by show (if (false&&decide (x % (18446744073709551616:Int)>=9223372036854775808))=true then x % (18446744073709551616:Int)-18446744073709551616 else x % (18446744073709551616:Int))=_;simp
theorem Hc {x:Nat}(h:x<2 ^ 64):(BitVec.ofInt 64 (x:Int)).toNat=x:=by rw[I_,BitVec.toNat_ofNat,xO h]
theorem Q7y {x y:Nat}(hx:x<2 ^ 64) (hy:y<2 ^ 64):QB .and .u64 x y=((x &&& y:Nat):Int):=by
 have e:(BitVec.ofInt 64 (x:Int) &&& BitVec.ofInt 64 (y:Int)).toNat=x &&& y:=by rw[BitVec.toNat_and,Hc hx,Hc hy]
 show IntKind.wrap .u64 ((BitVec.ofInt 64 (x:Int) &&& BitVec.ofInt 64 (y:Int)).toNat:Int)=_;have hl:x &&& y<=x:=Nat.and_le_left;rw[e,Fw];omega
set_option maxHeartbeats 2000000 in
theorem Z50 {P:Program}{f:Nat}(h:Fun P f czT [.tmp 2] 14) (hm:P.follows .mixedOrders=true) {x:Int}(h0:0<=x) (h1:x<=18446744073709551615) {U:Heap}{K:Value->Heap->Prop}(hK:K (.int .i64 (tzN x.toNat)) U):VCalled P f [.int .u64 x] U K:=by
 refine h.calls hm LU ?_;obtain⟨n,rfl⟩:=zA h0;have h1:n<2 ^ 64:=by omega
 rw[ze] at hK;unfold czT;refine Ug (.int .i64 0) (λ_ h=>h) ?_;refine Ug (.int .u64 n) (λ_ h=>h) ?_;refine Ug (.bool ((n:Int)==0)) (λ_ h=>Z1p (k:=.u64) (a:=n) (b:=0) rfl rfl h) ?_;show vif ((n:Int)==0) _ _;refine⟨λhz=>?_,λhz=>?_⟩
 .have hz:n=0:=by have:=eq_of_beq hz;omega
  subst hz;refine Ug (.int .i64 64) (λ_ h=>h) ?_;exact⟨_,_,DropTo.refl _ _ _,hK⟩
 have hz:0<n:=by
  rcases Nat.eq_zero_or_pos n with h|h
  .subst h;cases hz
  .exact h
 refine Ug (.int .u64 n) (λ_ h=>h) ?_;refine Ug (.int .u64 n) (λ_ h=>h) ?_;refine Ug (.int .u64 (IntKind.u64.wrap (0-(n:Int)))) (λ_ h=>h) ?_;have hand:QB .and .u64 n (IntKind.u64.wrap (0-(n:Int)))=((2 ^ tzN n:Nat):Int):=by
  have e:IntKind.u64.wrap (0-(n:Int))=((2 ^ 64-n:Nat):Int):=by rw[Fw];omega
  rw[e,Q7y h1 (by omega),Z1r hz h1]
 refine Ug (.int .u64 ((2 ^ tzN n:Nat):Int)) (λ_ h=>Q8i (k:=.u64) (a:=n) (b:=IntKind.u64.wrap (0-(n:Int))) rfl rfl (by rw[hand];exact h)) ?_;have hmul:TI .mul .u64 ((2 ^ tzN n:Nat):Int) 285870213051353865=((2 ^ tzN n*285870213051353865 % 18446744073709551616:Nat):Int):=by show IntKind.wrap .u64 (((2 ^ tzN n:Nat):Int)*285870213051353865)=_;rw[Fw];omega
 refine Ug (.int .u64 ((2 ^ tzN n*285870213051353865 % 18446744073709551616:Nat):Int)) (λ_ h=>Q4k (k:=.u64) (a:=((2 ^ tzN n:Nat):Int)) (b:=285870213051353865) rfl rfl (by rw[hmul];exact h)) ?_;have qL:T8 .shr .u64 ((2 ^ tzN n*285870213051353865 % 18446744073709551616:Nat):Int) 58=((2 ^ tzN n*285870213051353865 % 18446744073709551616 / 288230376151711744:Nat):Int):=by show Int.fdiv _ 288230376151711744=_;rw[Int.fdiv_eq_ediv_of_nonneg _ (by decide)];omega
 refine Ug (.int .u64 ((2 ^ tzN n*285870213051353865 % 18446744073709551616 / 288230376151711744:Nat):Int)) (λ_ h=>Q4y (k:=.u64) (k':=.u64) (a:=((2 ^ tzN n*285870213051353865 % 18446744073709551616:Nat):Int)) (b:=58) rfl rfl (by decide) (by rw[qL];exact h)) ?_;have qM:=Z5f (tzN n) (G_ hz h1).1;have ao:2 ^ tzN n*285870213051353865 % 18446744073709551616 / 288230376151711744<64:=by omega
 generalize 2 ^ tzN n*285870213051353865 % 18446744073709551616 / 288230376151711744=k at *
 refine Ug (.pointer (some ⟨0,0+(k:Int).toNat*1,some 0⟩)) (λ_ h=>Z13 (g:=0) (o:=0) (s:=0) (b:=k) (k':=.u64) rfl rfl (by omega) h) ?_;have hv:YK false 1 (Go.V.t64.map λx=>Value.int .u8 x) (0+(k:Int).toNat*1)=some (.int .u8 (tzN n)):=by show (Go.V.t64.map λx=>Value.int .u8 x)[0+(k:Int).toNat*1]?=_;rw[ze,wA,zQ,xu,qM];rfl
 refine Ug (.int .u8 (tzN n)) (λ_ h=>Q94 (g:=0) (s:=0) (o:=0+(k:Int).toNat*1) (c:=Go.V.t64.map λx=>Value.int .u8 x) rfl rfl (by decide) hv h) ?_;have u_:=(G_ hz h1).1;have fY:IntKind.i64.wrap (tzN n:Int)=tzN n:=InK.wrap (k:=.i64) ((Qf _).2 (by omega));refine Ug (.int .i64 (tzN n)) (λ_ h=>Q8q (k:=.u8) (a:=tzN n) rfl (by rw[fY];exact h)) ?_;refine Ug (.int .i64 (tzN n)) (λ_ h=>h) ?_;exact⟨_,_,DropTo.refl _ _ _,hK⟩
theorem Q2m {P:Program}{U:Heap}{v:SV}{u:Value}(h:SR P hNil Yv Wp v u):Ret P U v [] u U :=
 ⟨⟨.refl _,Dead.refl _⟩,λ_=>rfl,Yv,λj b hj=>by simp at hj,λj j' i hj=>by simp at hj,h⟩
theorem Q4s (U:Heap):SU U []=U:=by
 unfold SU;cases U;simp only[List.length_nil,z_,List.getElem?_nil,Option.bind_none,Heap.mk.injEq,and_true];funext i;split
 .rfl
 .rename_i wf hi;exact(wf i (by simpa using hi)).symm
theorem Z1j {P:Program}{f:Nat}{pre:Int->Prop}{r:Int->Int}(h:∀ x,pre x->∀ (U:Heap) (K:Value->Heap->Prop),K (.int .i64 (r x)) U->VCalled P f [.int .u64 x] U K) :
  OkC P f (Wt (.one (.k (.i .u64)):AL Int) pre (λd=>.val (.i .i64) (r d)) (λ_=>[])):=by
 intro ap dX U args vs c v bs aA hs hv bY hc;unfold Wt at hs;split at hs
 .rename_i d hd;obtain⟨rfl,rfl,rfl⟩:=(by simpa using hs:pre d=c/\SV.val (.i .i64) (r d)=v/\[]=bs)
  match args,aA,hd with
  |[],_,hd=>simp[AL.dec] at hd
  |a::x::l,_,hd=>simp[AL.dec] at hd
  |[a],aA,hd =>
   simp only[AL.dec] at hd;obtain⟨u1,oW,rfl,s1,aA⟩:=aA;have aA:oW=[]:=aA;subst aA;have k1:KC U (.i .u64) d [u1]:=QR (k:=.i .u64) hd ⟨u1,[],rfl,s1,rfl⟩;have e1:u1=.int .u64 d:=by simpa [KC] using k1
   subst e1;refine⟨h d hc U _ (Q2m (by simp[SR,KC])),λ_ _=>h d hc U _ ⟨?_,(Q4s U).symm⟩⟩;simp[UC,FI]
 .cases hs
def Vl:AL (Int):=(.one (.k (.i .u64)))
def KQ (d:Int):Prop:=0<=d/\d<=18446744073709551615
def KT (d:Int):SV:=.val (.i .i64) ((tzN d.toNat:Nat):Int)
def KU (d:Int):List OB:=[]
def WH:CSp:=Wt Vl KQ KT KU
abbrev Vb:Prop:=OkC Tryz.prog 97 WH
theorem Vh:Vb :=
 Z1j (pre:=λx=>0<=x/\x<=18446744073709551615) (r:=λx=>((tzN x.toNat:Nat):Int)) λx hx U K hK =>
  Z50 (f:=97) (by rw[show czT=c97 by kernel_rfl];exact Z6x) mixed hx.1 hx.2 hK
def YD:AL (Int):=(.one (.k (.i .u64)))
def UF (d:Int):Prop:=0<=d/\d<16777216
def Yj (d:Int):SV:=.val (.i .i64) ((pcN 24 d.toNat:Nat):Int)
def Yf (d:Int):List OB:=[]
def X_:CSp:=Wt YD UF Yj Yf
abbrev NI (x:Int):=(QB .and .u64 ((UH .u64 ((QB .and .u64 (UH .u64 ((QB .and .u64 (UH .u64 x (1:Int)) (6148914691236517205:Int))+(QB .and .u64 x (6148914691236517205:Int))) (2:Int)) (3689348814741910323:Int))+(QB .and .u64 ((QB .and .u64 (UH .u64 x (1:Int)) (6148914691236517205:Int))+(QB .and .u64 x (6148914691236517205:Int))) (3689348814741910323:Int))) (4:Int))+((QB .and .u64 (UH .u64 ((QB .and .u64 (UH .u64 x (1:Int)) (6148914691236517205:Int))+(QB .and .u64 x (6148914691236517205:Int))) (2:Int)) (3689348814741910323:Int))+(QB .and .u64 ((QB .and .u64 (UH .u64 x (1:Int)) (6148914691236517205:Int))+(QB .and .u64 x (6148914691236517205:Int))) (3689348814741910323:Int)))) (1085102592571150095:Int))
abbrev Rm (x:Int):=(((NI x)+(UH .u64 (NI x) (8:Int)))+(UH .u64 ((NI x)+(UH .u64 (NI x) (8:Int))) (16:Int)))
abbrev Ry (x:Int):=((QB .and .u64 (UH .u64 ((QB .and .u64 (UH .u64 x (1:Int)) (6148914691236517205:Int))+(QB .and .u64 x (6148914691236517205:Int))) (2:Int)) (3689348814741910323:Int))+(QB .and .u64 ((QB .and .u64 (UH .u64 x (1:Int)) (6148914691236517205:Int))+(QB .and .u64 x (6148914691236517205:Int))) (3689348814741910323:Int)))
abbrev Ro (x:Int):=((Rm x)+(UH .u64 (Rm x) (32:Int)))
def Jg (x:Int):Prop :=
 (0<=(1:Int))/\(InK .u64 ((QB .and .u64 (UH .u64 x (1:Int)) (6148914691236517205:Int))+(QB .and .u64 x (6148914691236517205:Int))))/\(0<=(2:Int))/\(InK .u64 (Ry x))/\(0<=(4:Int))/\(InK .u64 ((UH .u64 (Ry x) (4:Int))+(Ry x)))/\(0<=(8:Int))/\(InK .u64 ((NI x)+(UH .u64 (NI x) (8:Int))))/\(0<=(16:Int))/\(InK .u64 (Rm x))/\(0<=(32:Int))/\(InK .u64 (Ro x))/\(I64 (Ro x))/\((QB .and .i64 (Ro x) (127:Int))=((pcN 24 x.toNat:Nat):Int)/\(True))
def YF:Cx:=⟨[],[],35,[],0,[],[],[],[],false,[],[],[],[]⟩
def N2 (x:Int):List (Nat×LoopAnn):=[]
theorem Nz (d:Int):gwp (YF) (N2 d) c74 0 (Y4 [.tmp 2] (Yj d) (Yf d)) (Qq 35 (AL.can YD d))=Jg d:=by kernel_rfl
abbrev No:Prop:=OkC Tryz.prog 74 X_
theorem Ni (h:∀ (x:Int),(0<=x/\x<16777216)->Jg x):OkC Tryz.prog 74 X_ :=
 Qu Z55 mixed (C:=YF) (V:=λ(d:Int)=>Jg d) ⟨.nil,XsOk.nil,ItsOk.nil,YlOk.nil,IysOk.nil,XfOk.nil⟩ (Nz) λd hp=>h d hp
theorem UZ:No:=Ni λx h=>by
 obtain⟨h1,h2⟩:=h;obtain⟨n,rfl⟩:=zA h1;unfold Jg;(try delta NI Rm Ry Ro);(try delta lI gD sT I64 Q1 rg rb zD nS);have hn:n<16777216:=by omega
 obtain⟨a1,a2⟩:=opA (y:=n) (by omega);obtain⟨b1,b2⟩:=opB (y:=swA n) (by omega);obtain⟨c1,c2,c3⟩:=opC (y:=swB (swA n)) (by omega);obtain⟨d1,d2⟩:=opS (y:=swC (swB (swA n))) (k:=8) (by omega);obtain⟨e1,e2⟩:=opS (y:=swD (swC (swB (swA n)))) (k:=16) (by omega);obtain⟨f1,f2⟩:=opS (y:=swE (swD (swC (swB (swA n))))) (k:=32) (by omega);have d0:swD (swC (swB (swA n)))=swC (swB (swA n))+swC (swB (swA n)) >>> 8:=rfl;have e0:swE (swD (swC (swB (swA n))))=swD (swC (swB (swA n)))+swD (swC (swB (swA n))) >>> 16:=rfl;have f0:swF (swE (swD (swC (swB (swA n)))))=swE (swD (swC (swB (swA n))))+swE (swD (swC (swB (swA n)))) >>> 32:=rfl;rw[<-d0] at d1 d2;rw[<-e0] at e1 e2;rw[<-f0] at f1 f2;have g1:=Fe (x:=swF (swE (swD (swC (swB (swA n)))))) (y:=127) (by omega) (by omega);have g2:=Z5b hn;unfold swN at g2;have u:∀ m:Nat,m<2 ^ 60->InK .u64 (m:Int):=λm hm=>by rw[Ln];omega
 have i:∀ m:Nat,m<2 ^ 60->InK .i64 (m:Int):=λm hm=>by rw[Qf];omega
 have d1:((swC (swB (swA n)):Nat):Int)+UH .u64 ((swC (swB (swA n)):Nat):Int) 8=((swD (swC (swB (swA n))):Nat):Int):=d1;have e1:((swD (swC (swB (swA n))):Nat):Int)+UH .u64 ((swD (swC (swB (swA n))):Nat):Int) 16=((swE (swD (swC (swB (swA n)))):Nat):Int):=e1;have f1:((swE (swD (swC (swB (swA n)))):Nat):Int)+UH .u64 ((swE (swD (swC (swB (swA n)))):Nat):Int) 32=((swF (swE (swD (swC (swB (swA n))))):Nat):Int):=f1;have g1:QB .and .i64 ((swF (swE (swD (swC (swB (swA n))))):Nat):Int) 127=_:=g1;rw[a1,b1,c1,c3,d1,e1,f1,g1,g2];have hC:swB (swA n) >>> 4+swB (swA n)<2 ^ 60:=by have:=SS (swB (swA n)) 4;omega
 repeat' (first|with_reducible exact u _ (by omega)|with_reducible exact i _ (by omega)|with_reducible exact u _ hC|exact trivial|omega|(rw[ze];done)|with_reducible refine And.intro ?_ ?_)
def Q4d:List Int->Int
 |[]=>0
 |x::l=>x+Q4d l
def Pc (r:Int):Int:=(((WR r.toNat).length:Nat):Int)
def PC (r:Int):Int:=Q4d (WR r.toNat)
def Tp (r:Int):Int:=Pc r+100*PC r
def J4 (hd:Int) (rows:List Int):List Int:=if Q4 hd rows=0 then rows.map Tp else []
theorem Z5p {n:Nat}(h0:0<n) (h1:n<2 ^ 64):n.testBit (tzN n)=true:=by
 obtain⟨_,m,hm⟩:=G_ h0 h1;generalize tzN n=t at *
 rw[hm,Nat.testBit_two_pow_mul];simp
theorem Ee:∀ f n,n<=f->n<2 ^ 64->∀ i:Int,i∈Q1i f n<->∃ k:Nat,i=k/\n.testBit k=true
 |0,n,h1,_,i=>by
  have:n=0:=by omega
  subst this;simp[Q1i]
 |f+1,n,h1,h2,i=>by
  unfold Q1i;by_cases h:n=0
  .subst h;simp
  .rw[z6 h,zH];have hle:=Nat.and_le_right (n:=n) (m:=n-1);rw[Ee f _ (by omega) (by omega)];constructor
   .rintro (e|⟨k,e,hb⟩)
    .exact⟨tzN n,e,Z5p (by omega) h2⟩
    .rw[Lt (by omega) h2] at hb;exact⟨k,e,by simp at hb;exact hb.1⟩
   .rintro⟨k,e,hb⟩;by_cases hk:k=tzN n
    .exact .inl (by rw[e,hk])
    .exact .inr ⟨k,e,by rw[Lt (by omega) h2,hb,xc hk];rfl⟩
theorem Q8n {n:Nat}(h:n<2 ^ 64) (i:Int):i∈WR n<->∃ k:Nat,i=k/\n.testBit k=true:=Ee n n (z9 _) h i
theorem Q4w {n m:Nat}(h:n<2 ^ m) (hm:m<=64):∀ i∈WR n,0<=i/\i<(m:Int):=λi hi=>by
 have hp:2 ^ m<=2 ^ 64:=Nat.pow_le_pow_right (by omega) hm;obtain⟨k,rfl,hb⟩:=(Q8n (by omega) i).1 hi;have:k<m:=by
  rcases zm k m with h2|h2
  .exact h2
  .rw[Nat.testBit_lt_two_pow (x3 h (Nat.pow_le_pow_right (by omega) h2))] at hb;cases hb
 omega
theorem AU:∀ f n,n<=f->n<2 ^ 64->(Q1i f n).Nodup
 |0,n,_,_=>by simp[Q1i]
 |f+1,n,h1,h2=>by
  unfold Q1i;by_cases h:n=0
  .rw[z7 h];exact List.nodup_nil
  .rw[z6 h,xA];have hle:=Nat.and_le_right (n:=n) (m:=n-1);refine⟨λhm=>?_,AU f _ (by omega) (by omega)⟩;obtain⟨k,e,hb⟩:=(Ee f _ (by omega) (by omega) _).1 hm;rw[Lt (by omega) h2] at hb;have:k=tzN n:=by omega
   rw[xe this] at hb;simp at hb
theorem AM:∀ {l m:List Int},l.Nodup->(∀ x∈l,x∈m)->l.length<=m.length
 |[],_,_,_=>Nat.zero_le _
 |x::l,m,hn,hs=>by have hn:=xA.1 hn;have hx:=hs x (zF ..);have:=AM (l:=l) (m:=m.erase x) hn.2 λy hy=>(List.mem_erase_of_ne (by rintro rfl;exact hn.1 hy)).2 (hs y (x4 _ hy));rw[List.length_erase_of_mem hx] at this;have:0<m.length:=List.length_pos_of_mem hx;simp only[zw];omega
theorem Q36 {n m:Nat}(h:n<2 ^ m) (hm:m<=64):(WR n).length<=m:=by
 have hp:2 ^ m<=2 ^ 64:=Nat.pow_le_pow_right (by omega) hm;have:=AM (m:=(List.range m).map λ(k:Nat)=>(k:Int)) (AU n n (z9 _) (by omega)) λx hx=>by obtain⟨h1,h2⟩:=Q4w h hm x hx;simp only[zC,zG];exact⟨x.toNat,by omega,by omega⟩
 simpa [WR] using this
theorem Q3k {l:List Int}(h:∀ x∈l,0<=x/\x<24):0<=Q4d l/\Q4d l<=24*l.length:=by
 induction l with
 |nil=>simp[Q4d]
 |cons x l ih =>have h1:=h x (zF ..);have h2:=ih λy hy=>h y (x4 _ hy);simp only[Q4d,zw];omega
theorem HK {n:Nat}(h:n<16777216):(WR n).length<=24/\0<=Q4d (WR n)/\Q4d (WR n)<=576:=by have h1:=Q36 (n:=n) (m:=24) (by omega) (by omega);have h2:=Q3k (Q4w (n:=n) (m:=24) (by omega) (by omega));omega
def Mk:AL (Int×Int×Int):=(.cons (.k (.i .i64)) (.cons (.ptr (.one (.k (.i .i64)))) (.one (.ptr (.one (.k (.i .i64)))))))
def PT (d:Int×Int×Int):Prop:=True
def Ny (d:Int×Int×Int):SV:=.val .bo (decide (d.1<d.2.1)||decide (d.2.2<d.1))
def N5 (d:Int×Int×Int):List OB:=[]
def U5:CSp:=Wt Mk PT Ny N5
def KY (n:Int) (a:Int) (b:Int):Prop :=
 (((decide (n<a))||(decide (n > b)))=(decide (n<a)||decide (b<n))/\(True))
def M6:Cx:=⟨[],[],13,[],0,[],[],[],[],false,[],[],[],[]⟩
def R5 (n:Int) (a:Int) (b:Int):List (Nat×LoopAnn):=[]
theorem Rg (d:Int×Int×Int):gwp (M6) (R5 d.1 d.2.1 d.2.2) Z8f 0 (Y4 [.tmp 4] (Ny d) (N5 d)) (Qq 13 (AL.can Mk d))=KY d.1 d.2.1 d.2.2:=by kernel_rfl
abbrev Ri:Prop:=OkC Tryz.prog 126 U5
theorem R4 (h:∀ (n:Int) (a:Int) (b:Int),(True)->KY n a b):OkC Tryz.prog 126 U5 :=
 Qu Z0q mixed (C:=M6) (V:=λ(d:Int×Int×Int)=>KY d.1 d.2.1 d.2.2) ⟨.nil,XsOk.nil,ItsOk.nil,YlOk.nil,IysOk.nil,XfOk.nil⟩ (Rg) λd hp=>h d.1 d.2.1 d.2.2 hp
theorem R9:Ri:=R4 λn a b _=>by exact⟨rfl,trivial⟩
def Dm:AL (Int×Int×List Int):=(.cons (.k (.i .i64)) (.cons (.k (.i .i64)) (.one (.k (.list (.i .i64))))))
def RT (d:Int×Int×List Int):Prop:=d.2.2.length<=1000000
def G1 (d:Int×Int×List Int):SV:=.val .bo (!(d.2.2.any λn=>decide (n<d.1)||decide (d.2.1<n)))
def MT (d:Int×Int×List Int):List OB:=[]
def Vn:CSp:=Wt Dm RT G1 MT
def UO (a:Int) (b:Int) (l:List Int):Prop :=
 (l.length<=1000000/\∀ x∈l,(λ(x1:Int)=>True) x)/\((!(l.any (λ(x1:Int)=>(decide (x1<a)||decide (b<x1)))))=(!(l.any λn=>decide (n<a)||decide (b<n)))/\(True))
def Dq:Cx:=⟨[],[(89,Qw),(126,U5)],11,[],0,[],[],[],[],false,[],[],[],[]⟩
def Cj (a:Int) (b:Int) (l:List Int):List (Nat×LoopAnn):=[]
theorem Cy (d:Int×Int×List Int):gwp (Dq) (Cj d.1 d.2.1 d.2.2) c95 0 (Y4 [.tmp 6] (G1 d) (MT d)) (Qq 11 (AL.can Dm d))=UO d.1 d.2.1 d.2.2:=by kernel_rfl
abbrev C5:Prop:=OkC Tryz.prog 95 Vn
theorem CP (h:∀ (a:Int) (b:Int) (l:List Int),(l.length<=1000000)->UO a b l):OkC Tryz.prog 95 Vn :=
 Qu Z78 mixed (C:=Dq) (V:=λ(d:Int×Int×List Int)=>UO d.1 d.2.1 d.2.2) ⟨(.cons Zl (.cons R9 .nil)),XsOk.nil,ItsOk.nil,YlOk.nil,IysOk.nil,XfOk.nil⟩ (Cy) λd hp=>h d.1 d.2.1 d.2.2 hp
theorem Dt:C5:=CP λa b l h=>by exact⟨⟨h,λ_ _=>trivial⟩,rfl,trivial⟩
def LH:AL (Int):=(.one (.k (.i .i64)))
def IX (d:Int):Prop:=0<=d/\d<=24
def TF (d:Int):SV:=.val (.i .i64) (2 ^ d.toNat-1)
def TC (d:Int):List OB:=[]
def GY:CSp:=Wt LH IX TF TC
def NF (h:Int):Prop :=
 (0<=h)/\(I64 (YN .i64 (1:Int) h))/\(I64 ((YN .i64 (1:Int) h)-(1:Int)))/\(((YN .i64 (1:Int) h)-(1:Int))=(2 ^ h.toNat-1)/\(True))
def Lx:Cx:=⟨[],[],6,[],0,[],[],[],[],false,[],[],[],[]⟩
def OI (h:Int):List (Nat×LoopAnn):=[]
theorem OA (d:Int):gwp (Lx) (OI d) c96 0 (Y4 [.tmp 2] (TF d) (TC d)) (Qq 6 (AL.can LH d))=NF d:=by kernel_rfl
abbrev OX:Prop:=OkC Tryz.prog 96 GY
theorem Q0l (h:∀ (h:Int),(0<=h/\h<=24)->NF h):OkC Tryz.prog 96 GY :=
 Qu Z6h mixed (C:=Lx) (V:=λ(d:Int)=>NF d) ⟨.nil,XsOk.nil,ItsOk.nil,YlOk.nil,IysOk.nil,XfOk.nil⟩ (OA) λd hp=>h d hp
theorem Q89 {h:Int}(h1:0<=h) (h2:h<=62):YN .i64 1 h=2 ^ h.toNat:=by obtain⟨n,rfl⟩:=zA h1;have:Nat.min n 64=n:=wq (by omega);simp only[YN,ze,IntKind.bits,this,Int.one_mul]
theorem PL {h:Int}(h1:0<=h) (h2:h<=24):(1:Int)<=2 ^ h.toNat/\(2:Int) ^ h.toNat<=16777216:=by
 obtain⟨n,rfl⟩:=zA h1;have a1:2 ^ 0<=2 ^ n:=Nat.pow_le_pow_right (by omega) (by omega);have a2:2 ^ n<=2 ^ 24:=Nat.pow_le_pow_right (by omega) (by omega);simp only[ze];have e:((2:Int) ^ n)=((2 ^ n:Nat):Int):=by norm_cast
 rw[e];omega
theorem Sn:OX:=Q0l λh hh=>by unfold NF;(try delta lI gD sT I64 Q1 rg rb zD nS);have:=PL hh.1 hh.2;rw[Q89 hh.1 (by omega),Qf,Qf];exact⟨hh.1,by omega,by omega,rfl,trivial⟩
def DA:AL (Int×List Int):=(.one (.agg (.cons (.k (.i .i64)) (.one (.k (.list (.i .i64)))))))
def Su (d:Int×List Int):Prop:=d.2.length<=1000000
def GB (d:Int×List Int):SV:=.val (.i .i64) (Q4 d.1 d.2)
def Gr (d:Int×List Int):List OB:=[]
def Vi:CSp:=Wt DA Su GB Gr
def Km (hd:Int) (rows:List Int):Prop :=
 ([hd].length<=1000000)/\((!(!([hd].any λn=>decide (n<(1:Int))||decide ((24:Int)<n))))=true ->
  ((2:Int)=(Q4 hd rows)/\(True))) /\
 ((!(!([hd].any λn=>decide (n<(1:Int))||decide ((24:Int)<n))))=false ->
  ((decide ((lI rows) > (60:Int)))=true ->
   ((5:Int)=(Q4 hd rows)/\(True))) /\
  ((decide ((lI rows) > (60:Int)))=false ->
   (((lI rows)==(0:Int))=true ->
    ((7:Int)=(Q4 hd rows)/\(True))) /\
   (((lI rows)==(0:Int))=false ->
    (0<=hd/\hd<=24)/\(rows.length<=1000000)/\((!(!(rows.any λn=>decide (n<(0:Int))||decide ((2 ^ hd.toNat-1)<n))))=true ->
     ((2:Int)=(Q4 hd rows)/\(True))) /\
    ((!(!(rows.any λn=>decide (n<(0:Int))||decide ((2 ^ hd.toNat-1)<n))))=false ->
     ((0:Int)=(Q4 hd rows)/\(True))))))
def B5:Cx:=⟨[(3,(.i .i64))],[(95,Vn),(96,GY)],27,[],0,[],[],[],[],false,[],[],[],[]⟩
def CC (hd:Int) (rows:List Int):List (Nat×LoopAnn):=[]
theorem Ci (d:Int×List Int):gwp (B5) (CC d.1 d.2) c45 0 (Y4 [.tmp 2] (GB d) (Gr d)) (Qq 27 (AL.can DA d))=Km d.1 d.2:=by kernel_rfl
abbrev CU:Prop:=OkC Tryz.prog 45 Vi
theorem C6 (h:∀ (hd:Int) (rows:List Int),(rows.length<=1000000)->Km hd rows):OkC Tryz.prog 45 Vi :=
 Qu Z7e mixed (C:=B5) (V:=λ(d:Int×List Int)=>Km d.1 d.2) ⟨(.cons Dt (.cons Sn .nil)),XsOk.nil,ItsOk.nil,YlOk.nil,IysOk.nil,XfOk.nil⟩ (Ci) λd hp=>h d.1 d.2 hp
theorem B9:CU:=C6 λhd rows hl=>by
 unfold Km;(try delta lI gD sT I64 Q1 rg rb zD nS);simp only[and_true,zf,zy,zU,ne_eq,zN,gt_iff_lt,Bool.not_not];simp only[<-nI];refine⟨by simp,λh1=>by simp at h1;simp[Q4,h1],λh1=>⟨λh2=>?_,λh2=>⟨λh3=>?_,λh3=>?_⟩⟩⟩;all_goals simp only[List.any_cons,List.any_nil,xV,xq] at h1
 .have:60<rows.length:=by omega
  simp[Q4,h1,this]
 .have h3:rows.length=0:=by omega
  simp[Q4,h1,h3]
 have gK:¬ 60<rows.length:=by omega
 have fz:¬ rows.length=0:=by omega
 have hi:1<=hd/\hd<=24:=by simpa [inI] using h1
 have nY:Q4 hd rows=if rows.any (λx=>!inI x 0 (2 ^ hd.toNat-1)) then 2 else 0:=by simp only[Q4,h1,gK,fz];simp
 rw[nY];refine⟨by omega,by omega,λh=>by rw[z7 h],λh=>by rw[h];rfl⟩
def P2:AL (Int):=(.one (.k (.i .i64)))
def Ca (d:Int):Prop:=0<=d/\d<16777216
def DF (d:Int):SV:=.agg [.val (.i .i64) (Pc d),.val (.i .i64) (PC d)]
def DS (d:Int):List OB:=[]
def GI:CSp:=Wt P2 Ca DF DS
def Vu (r:Int):Prop :=
 ∃ (e2:Unit) (d20:Int×Int×Int),((r=d20.1/\True/\True)/\(((0:Int)=d20.2.1/\(0:Int)=d20.2.2/\nS)/\True)) /\
 LoopP (λ(d2:Int×Int×Int) (q2:(Int×Int×Int)->Prop) =>
  ((d2.1 != (0:Int))=true ->
   (I64 (d2.2.1+(1:Int)))/\(InK .u64 d2.1)/\(0<=d2.1/\d2.1<=18446744073709551615)/\(I64 (d2.2.2+((tzN d2.1.toNat:Nat):Int)))/\(I64 (d2.1-(1:Int)))/\(∃ d3:Int×Int×Int,(((QB .and .i64 d2.1 (d2.1-(1:Int)))=d3.1/\True/\True)/\(((d2.2.1+(1:Int))=d3.2.1/\(d2.2.2+((tzN d2.1.toNat:Nat):Int))=d3.2.2/\nS)/\True))/\q2 d3)) /\
  ((d2.1 != (0:Int))=false ->
   ((d2.2.1=(Pc r)/\d2.2.2=(PC r)/\nS)/\(True)))) d20
def HN:Cx:=⟨[],[(97,WH)],21,[],0,[],[],[],[],false,[],[],[],[]⟩
def F7 (r:Int):List (Nat×LoopAnn):=[(0,⟨Unit,Int×Int×Int,[0,2],λe x=>[.val (.i .i64) x.1,.box 2 0],λe x=>[(2,.slot 2,.cells [.val (.i .i64) x.2.1,.val (.i .i64) x.2.2] (some 108))]⟩)]
theorem EE (d:Int):gwp (HN) (F7 d) c46 0 (Y4 [.cell 2 true 2] (DF d) (DS d)) (Qq 21 (AL.can P2 d))=Vu d:=by kernel_rfl
abbrev Ea:Prop:=OkC Tryz.prog 46 GI
theorem EW (h:∀ (r:Int),(0<=r/\r<16777216)->Vu r):OkC Tryz.prog 46 GI :=
 Qu Z3s mixed (C:=HN) (V:=λ(d:Int)=>Vu d) ⟨(.cons Vh .nil),XsOk.nil,ItsOk.nil,YlOk.nil,IysOk.nil,XfOk.nil⟩ (EE) λd hp=>h d hp
theorem ED:Ea:=EW λr hr=>by
 unfold Vu;(try delta lI gD sT I64 Q1 rg rb zD nS);obtain⟨n,rfl⟩:=zA hr.1;have hn:n<16777216:=by omega
 have hb:=HK hn;refine⟨(),((n:Int),0,0),(by and_intros<;>first|rfl|trivial|simp),?_⟩;refine⟨λd=>∃ s:Nat,d.1=s/\s<=n/\d.2.1+((WR s).length:Int)=Pc n/\d.2.2+Q4d (WR s)=PC n/\0<=d.2.1/\0<=d.2.2,λd=>d.1.toNat,⟨n,rfl,z9 _,by simp[Pc],by simp[PC],Int.le_refl _,Int.le_refl _⟩,?_⟩;have bG:Pc n<=24:=by simp only[Pc,ze];omega
 have aB:PC n<=576:=by simp only[PC,ze];omega
 rintro⟨_,a,b⟩ ⟨s,rfl,i1,i2,i3,i4,i5⟩;dsimp only at i2 i3 i4 i5 |-;simp only[bne_iff_ne,bne_eq_false_iff_eq,ne_eq,ze,Qf,Ln];have bY:=HK (n:=s) (by omega);refine⟨λh0=>?_,λh0=>?_⟩
 .have hs:0<s:=by omega
  have e1:(s:Int)-1=((s-1:Nat):Int):=by omega
  have bu:=Q50 hs;have v7:=(G_ hs (by omega)).1;have hle:=Nat.and_le_right (n:=s) (m:=s-1);have b9:=HK (n:=s &&& (s-1)) (by omega);rw[bu,zw] at i2;rw[bu] at i3;simp only[Q4d] at i3;refine⟨by omega,by omega,by omega,by omega,by omega,(((s &&& (s-1):Nat):Int),a+1,b+((tzN s:Nat):Int)),?_,⟨s &&& (s-1),rfl,by omega,by dsimp only;omega,by dsimp only;omega,by dsimp only;omega,by dsimp only;omega⟩,?_⟩
  .rw[e1,Fe (by omega) (by omega)];and_intros<;>first|rfl|trivial
  .dsimp only;omega
 .have:s=0:=by omega
  subst this;rw[Q56] at i2 i3;simp only[List.length_nil,Q4d] at i2 i3;and_intros<;>first|omega|trivial
def Uy:AL (Int×Int):=(.one (.agg (.cons (.k (.i .i64)) (.one (.k (.i .i64))))))
def BD (d:Int×Int):Prop:=0<=d.1/\d.1<=24/\0<=d.2/\d.2<=600
def VZ (d:Int×Int):SV:=.val (.i .i64) (d.1+100*d.2)
def VI (d:Int×Int):List OB:=[]
def Kf:CSp:=Wt Uy BD VZ VI
def Wj (a:Int) (b:Int):Prop :=
 (I64 ((100:Int)*b))/\(I64 (a+((100:Int)*b)))/\((a+((100:Int)*b))=(a+100*b)/\(True))
def Uf:Cx:=⟨[],[],9,[],0,[],[],[],[],false,[],[],[],[]⟩
def HD (a:Int) (b:Int):List (Nat×LoopAnn):=[]
theorem HF (d:Int×Int):gwp (Uf) (HD d.1 d.2) c47 0 (Y4 [.tmp 2] (VZ d) (VI d)) (Qq 9 (AL.can Uy d))=Wj d.1 d.2:=by kernel_rfl
abbrev HG:Prop:=OkC Tryz.prog 47 Kf
theorem H3 (h:∀ (a:Int) (b:Int),(0<=a/\a<=24/\0<=b/\b<=600)->Wj a b):OkC Tryz.prog 47 Kf :=
 Qu Z3i mixed (C:=Uf) (V:=λ(d:Int×Int)=>Wj d.1 d.2) ⟨.nil,XsOk.nil,ItsOk.nil,YlOk.nil,IysOk.nil,XfOk.nil⟩ (HF) λd hp=>h d.1 d.2 hp
theorem BQ:HG:=H3 λa b h=>by unfold Wj;(try delta lI gD sT I64 Q1 rg rb zD nS);rw[Qf,Qf];exact⟨by omega,by omega,rfl,trivial⟩
def T2:AL (Int×List Int):=(.one (.agg (.cons (.k (.i .i64)) (.one (.k (.list (.i .i64)))))))
def Ef (d:Int×List Int):Prop:=d.2.length<=1000
def P5 (d:Int×List Int):SV:=.tup [.lst 0,.val (.i .i64) (Q4 d.1 d.2)]
def HY (d:Int×List Int):List OB:=[.lst 3 (.i .i64) (J4 d.1 d.2) ((J4 d.1 d.2).isEmpty)]
def NO:CSp:=Wt T2 Ef P5 HY
def Ut (hd:Int) (rows:List Int):Prop :=
 (rows.length<=1000000)/\(((Q4 hd rows) != (0:Int))=true ->
  ((True/\(Q4 hd rows)=(Q4 hd rows)/\nS)/\(((J4 hd rows)=[]/\(J4 hd rows).isEmpty=true)/\True))) /\
 (((Q4 hd rows) != (0:Int))=false ->
  ∃ (e3:Unit) (d30:(List Int)×Int),((True/\rows=rows/\(lI rows)=(lI rows)/\(0:Int)=d30.2/\True)/\((d30.1=[]/\d30.1.isEmpty=true)/\True)) /\
  LoopP (λ(d3:(List Int)×Int) (q3:((List Int)×Int)->Prop) =>
   ((decide (d3.2<(lI rows)))=true ->
    (0<=d3.2)/\(d3.2<rows.length)/\(0<=(gD rows d3.2 0)/\(gD rows d3.2 0)<16777216)/\(0<=(Pc (gD rows d3.2 0))/\(Pc (gD rows d3.2 0))<=24/\0<=(PC (gD rows d3.2 0))/\(PC (gD rows d3.2 0))<=600)/\((d3.1.length+(List.length [((Pc (gD rows d3.2 0))+100*(PC (gD rows d3.2 0)))]))*8<=70368744177664)/\(I64 (d3.2+(1:Int)))/\(∃ d4:(List Int)×Int,((True/\rows=rows/\(lI rows)=(lI rows)/\(d3.2+(1:Int))=d4.2/\True)/\(((d3.1++[((Pc (gD rows d3.2 0))+100*(PC (gD rows d3.2 0)))])=d4.1/\false=d4.1.isEmpty)/\True))/\q3 d4)) /\
   ((decide (d3.2<(lI rows)))=false ->
    ((True/\(0:Int)=(Q4 hd rows)/\nS)/\((d3.1=(J4 hd rows)/\d3.1.isEmpty=(J4 hd rows).isEmpty)/\True)))) d30)
def T1:Cx:=⟨[(3,(.i .i64))],[(45,Vi),(46,GI),(47,Kf)],27,[],0,[],[],[],[],false,[],[],[],[]⟩
def IK (hd:Int) (rows:List Int):List (Nat×LoopAnn):=[(0,⟨Unit,(List Int)×Int,[2,13,14,15],λe x=>[.lst 24,.val (.list (.i .i64)) rows,.val (.i .i64) ((rows.length:Nat):Int),.val (.i .i64) x.2],λe x=>[(24,.slot 2,.lst 3 (.i .i64) x.1 (List.isEmpty x.1))]⟩)]
theorem O7 (d:Int×List Int):gwp (T1) (IK d.1 d.2) c13 0 (Y4 [.tmp 2,.tmp 3] (P5 d) (HY d)) (Qq 27 (AL.can T2 d))=Ut d.1 d.2:=by kernel_rfl
abbrev Ik:Prop:=OkC Tryz.prog 13 NO
theorem O4 (h:∀ (hd:Int) (rows:List Int),(rows.length<=1000)->Ut hd rows):OkC Tryz.prog 13 NO :=
 Qu Z52 mixed (C:=T1) (V:=λ(d:Int×List Int)=>Ut d.1 d.2) ⟨(.cons B9 (.cons ED (.cons BQ .nil))),XsOk.nil,ItsOk.nil,YlOk.nil,IysOk.nil,XfOk.nil⟩ (O7) λd hp=>h d.1 d.2 hp
theorem Z9l {hd:Int}{rows:List Int}(h:Q4 hd rows=0):1<=hd/\hd<=24/\rows.length<=60/\rows.length≠0/\∀ x∈rows,0<=x/\x<2 ^ hd.toNat:=by
 unfold Q4 at h;split at h
 .cases h
 .rename_i h1;split at h
  .cases h
  .rename_i h2;split at h
   .cases h
   .rename_i h3;split at h
    .cases h
    .rename_i h4;have h1:1<=hd/\hd<=24:=by simpa [inI] using h1
     refine⟨h1.1,h1.2,by omega,h3,λx hx=>?_⟩;have h5:∀ x∈rows,inI x 0 (2 ^ hd.toNat-1)=true:=by simpa using h4
     have:=h5 x hx;simp only[inI,z0,zf] at this;omega
theorem Tq:Ik:=O4 λhd rows hl=>by
 unfold Ut;(try delta lI gD sT I64 Q1 rg rb zD nS);simp only[bne_iff_ne,bne_eq_false_iff_eq,ne_eq];refine⟨by omega,λh=>?_,λh=>?_⟩
 .have:J4 hd rows=[]:=by unfold J4;rw[z6 h]
  rw[this];and_intros<;>first|rfl|trivial
 obtain⟨z1,z2,z3,z4,z5⟩:=Z9l h;have hp:=PL (h:=hd) (by omega) z2;have hW:J4 hd rows=rows.map Tp:=by unfold J4;rw[z7 h]
 rw[hW,h];refine⟨(),([],0),(by and_intros<;>first|rfl|trivial|simp),?_⟩;refine LoopP.count2 rows.length (λk l=>l=(rows.take k).map Tp) (by simp) ?_;rintro k l hk rfl q hq;have fg:((rows.take k).map Tp).length=k:=by rw[zM,wv];omega
 refine⟨λh1=>?_,λh1=>?_⟩<;>simp only[zf,zy] at h1
 .have ao:k<rows.length:=by omega
  have hr:=z5 rows[k] (zl ao);dsimp only;simp only[ze,Qc ao,Qf];obtain⟨n,hn⟩:=zA hr.1;have hb:=HK (n:=n) (by omega);have e1:Pc rows[k]=((WR n).length:Int):=by rw[hn];simp[Pc]
  have e2:PC rows[k]=Q4d (WR n):=by rw[hn];simp[PC]
  refine⟨by omega,by omega,by omega,by rw[e1,e2];omega,by rw[fg];simp only[zw,List.length_nil];omega,by omega,((rows.take k).map Tp++[Tp rows[k]],(k:Int)+1),?_,hq _ ao ?_⟩
  .have:((rows.take k).map Tp++[Tp rows[k]]).isEmpty=false:=by simp
   and_intros<;>first|rfl|trivial|exact this.symm
  .rw[ZG ao,xd];rfl
 .have:k=rows.length:=by omega
  subst this;rw[List.take_length];and_intros<;>first|rfl|trivial
abbrev Des:=Int×List Int
def WM (l:List Des):Int:=if 10<l.length then 5 else if l=[] then 7 else if DZ l≠0 then DZ l else if l.any (λd=>decide (d.1≠(l.getD 0 (0,[])).1)||decide (d.2.length≠(l.getD 0 (0,[])).2.length)) then 4 else 0
def Y1 (w:Int) (l:List Des):Int:=if WM l≠0 then WM l else if w=1\/w=2 then 0 else 2
def P6 (h:Int) (t:Bool) (rows:List Int):List Int:=if t then rows.map λr=>((r.toNat ^^^ (2 ^ h.toNat-1):Nat):Int) else rows
def Z0a (a b:List Int) (i:Nat):Nat:=(a.getD i 0).toNat ^^^ ((a.getD i 0).toNat &&& (b.getD i 0).toNat)
def Q15 (a b:List Int):Bool:=(List.range b.length).all λi=>(b.getD i 0).toNat ^^^ ((b.getD i 0).toNat &&& (a.getD i 0).toNat)==0
def Q2x (a b:List Int):Nat->Nat
 |0=>0
 |k+1=>Q2x a b k+pcN 24 (Z0a a b k)
def Q7g (a b:List Int):Int:=if Q15 a b then (Q2x a b b.length:Nat) else 0
def At (w hd:Int) (rows:List Int) (aP:Int) (au:List Int):Bool:=if Y1 w [(hd,rows),(aP,au)]=0 then Q15 (P6 hd (w==2) rows) (P6 hd (w==2) au) else false
def Ac (w hd:Int) (rows:List Int) (aP:Int) (au:List Int):Int:=if Y1 w [(hd,rows),(aP,au)]=0 then Q7g (P6 hd (w==2) rows) (P6 hd (w==2) au) else 0
def Ur (n:Int) (ks:List Int):Int:=if (ks.length:Int)≠n then 4 else if ks.any (λk=>!inI k (-1) 27624) then 2 else 0
def V8 (hd:Int) (rows ks:List Int):Int:=if Q4 hd rows≠0 then Q4 hd rows else Ur rows.length ks
def AD (hd:Int) (rows ks:List Int):List Int:=if V8 hd rows ks=0 then ((List.range ks.length).filter λi=>ks.getD i 0 != -1&&ks.getD i 0 != (J4 hd rows).getD i 0).map λ(i:Nat)=>(i:Int) else []
theorem PD {a b:Nat}(ha:a<2 ^ 62) (hb:b<2 ^ 62):QB .andNot .i64 (a:Int) (b:Int)=((a ^^^ (a &&& b):Nat):Int)/\a ^^^ (a &&& b)<=a:=by
 have oi:∀ i,(a ^^^ (a &&& b)).testBit i=(a.testBit i&&!b.testBit i):=λi=>by rw[Nat.testBit_xor,Nat.testBit_and];cases a.testBit i<;>cases b.testBit i<;>rfl
 have e:(BitVec.ofInt 64 ((a:Nat):Int) &&& ~~~BitVec.ofInt 64 ((b:Nat):Int)).toNat=a ^^^ (a &&& b):=by
  rw[BitVec.toNat_and,BitVec.toNat_not,BitVec.toNat_ofInt,BitVec.toNat_ofInt];have h1:(((a:Nat):Int) % ((2 ^ 64:Nat):Int)).toNat=a:=by omega
  have h2:(((b:Nat):Int) % ((2 ^ 64:Nat):Int)).toNat=b:=by omega
  rw[h1,h2];refine Nat.eq_of_testBit_eq λi=>?_;rw[oi,Nat.testBit_and,show 2 ^ 64-1-b=2 ^ 64-(b+1) by omega,Nat.testBit_two_pow_sub_succ (by omega)];by_cases hi:i<64
  .rw[xe hi];rfl
  .rw[Nat.testBit_lt_two_pow (show a<2 ^ i from x3 ha (Nat.pow_le_pow_right (by omega) (by omega)))];rfl
 have hle:a ^^^ (a &&& b)<=a:=by
  have:a ^^^ (a &&& b)=a &&& (a ^^^ (a &&& b)):=Nat.eq_of_testBit_eq λi=>by rw[Nat.testBit_and,oi];cases a.testBit i<;>cases b.testBit i<;>rfl
  rw[this];exact Nat.and_le_left
 refine⟨?_,hle⟩;show IntKind.wrap .i64 ((BitVec.ofInt 64 ((a:Nat):Int) &&& ~~~BitVec.ofInt 64 ((b:Nat):Int)).toNat:Int)=_;rw[e];generalize a ^^^ (a &&& b)=c at *
 simp[IntKind.wrap,IntKind.bits,IntKind.signed];omega
def YY:AL (List Int):=(.one (.k (.list (.i .i64))))
def Nd (d:List Int):Prop:=d≠[]/\d.length<=110
def YG (d:List Int):SV:=.lst 0
def YE (d:List Int):List OB:=[.lst 3 (.i .i64) d false]
def ZL:CSp:=Wt YY Nd YG YE
def Jw (l:List Int):Prop :=
 (l≠[])/\(false=true ->
  (True/\((l=[]/\false=true)/\True))) /\
 (false=false ->
  (((List.length ([]:List Int))+l.length)*8<=70368744177664)/\(True/\(((([]:List Int)++l)=l/\(l.isEmpty&&false)=false)/\True)))
def YM:Cx:=⟨[(3,(.i .i64))],[],8,[],0,[],[],[],[],false,[],[],[],[]⟩
def NU (l:List Int):List (Nat×LoopAnn):=[]
theorem NP (d:List Int):gwp (YM) (NU d) c76 0 (Y4 [.tmp 2] (YG d) (YE d)) (Qq 8 (AL.can YY d))=Jw d:=by kernel_rfl
abbrev NK:Prop:=OkC Tryz.prog 76 ZL
theorem ND (h:∀ (l:List Int),(l≠[]/\l.length<=110)->Jw l):OkC Tryz.prog 76 ZL :=
 Qu Z6y mixed (C:=YM) (V:=λ(d:List Int)=>Jw d) ⟨.nil,XsOk.nil,ItsOk.nil,YlOk.nil,IysOk.nil,XfOk.nil⟩ (NP) λd hp=>h d hp
theorem XX:NK:=ND λl h=>by simp[Jw,h.1];omega
def Zv:AL (Int×Int×(((Int×Int×Int×Int×Bool)×(Int×Int×Int×Int×Bool)->Prop)×((Int×Int×Int×Int×Bool)×(Int×Int×Int×Int×Bool)->Int))):=(.cons (.k (.i .i64)) (.cons (.k (.i .i64)) (.one (.fn [(.pair (.i .i64) (.pair (.i .i64) (.pair (.i .i64) (.pair (.i .i64) .bo)))),(.pair (.i .i64) (.pair (.i .i64) (.pair (.i .i64) (.pair (.i .i64) .bo))))] (.i .i64)))))
def Xo (xs:List (Int×Int×Int×Int×Bool)) (nl:Bool) (d:Int×Int×(((Int×Int×Int×Int×Bool)×(Int×Int×Int×Int×Bool)->Prop)×((Int×Int×Int×Int×Bool)×(Int×Int×Int×Int×Bool)->Int))):Prop:=d.1=0/\d.2.1=xs.length/\xs.length<=1/\(∀ x∈xs,∀ y∈xs,d.2.2.1 (x,y))
def Zr (xs:List (Int×Int×Int×Int×Bool)) (nl:Bool) (d:Int×Int×(((Int×Int×Int×Int×Bool)×(Int×Int×Int×Int×Bool)->Prop)×((Int×Int×Int×Int×Bool)×(Int×Int×Int×Int×Bool)->Int))):SV:=.tup []
def Zm (xs:List (Int×Int×Int×Int×Bool)) (nl:Bool) (d:Int×Int×(((Int×Int×Int×Int×Bool)×(Int×Int×Int×Int×Bool)->Prop)×((Int×Int×Int×Int×Bool)×(Int×Int×Int×Int×Bool)->Int))):List (Int×Int×Int×Int×Bool):=xs
def QE:XSp:=Q3e (gap [] 3) (Q75 36 (.pair (.i .i64) (.pair (.i .i64) (.pair (.i .i64) (.pair (.i .i64) .bo)))) Zv Xo Zr Zm)
def Qo (xs:List (Int×Int×Int×Int×Bool)) (nl:Bool) (a:Int) (b:Int) (p:((Int×Int×Int×Int×Bool)×(Int×Int×Int×Int×Bool)->Prop)×((Int×Int×Int×Int×Bool)×(Int×Int×Int×Int×Bool)->Int)):Prop:=∀ vals:List Value,
 (I64 (a+(1:Int)))/\∃ (e2:Unit) (d20:(List (Int×Int×Int×Int×Bool))×Bool×Int),((True/\a=a/\b=b/\(SV.pf [(.pair (.i .i64) (.pair (.i .i64) (.pair (.i .i64) (.pair (.i .i64) .bo)))),(.pair (.i .i64) (.pair (.i .i64) (.pair (.i .i64) (.pair (.i .i64) .bo))))] (.i .i64) p.1 p.2=SV.pf [(.pair (.i .i64) (.pair (.i .i64) (.pair (.i .i64) (.pair (.i .i64) .bo)))),(.pair (.i .i64) (.pair (.i .i64) (.pair (.i .i64) (.pair (.i .i64) .bo))))] (.i .i64) p.1 p.2)/\(a+(1:Int))=d20.2.2/\True)/\((xs=d20.1/\nl=d20.2.1)/\(vals=vals/\(True/\nS))/\True)) /\
 LoopP (λ(d2:(List (Int×Int×Int×Int×Bool))×Bool×Int) (q2:((List (Int×Int×Int×Int×Bool))×Bool×Int)->Prop) =>
  ((decide (d2.2.2<b))=true ->
   ∃ (e5:Bool×Int) (d50:(List (Int×Int×Int×Int×Bool))×Int),((True/\a=a/\b=b/\(SV.pf [(.pair (.i .i64) (.pair (.i .i64) (.pair (.i .i64) (.pair (.i .i64) .bo)))),(.pair (.i .i64) (.pair (.i .i64) (.pair (.i .i64) (.pair (.i .i64) .bo))))] (.i .i64) p.1 p.2=SV.pf [(.pair (.i .i64) (.pair (.i .i64) (.pair (.i .i64) (.pair (.i .i64) .bo)))),(.pair (.i .i64) (.pair (.i .i64) (.pair (.i .i64) (.pair (.i .i64) .bo))))] (.i .i64) p.1 p.2)/\d2.2.2=e5.2/\d2.2.2=d50.2/\True)/\((d2.1=d50.1/\d2.2.1=e5.1)/\(vals=vals/\(True/\nS))/\True)) /\
   LoopP (λ(d5:(List (Int×Int×Int×Int×Bool))×Int) (q5:((List (Int×Int×Int×Int×Bool))×Int)->Prop) =>
    ((decide (d5.2 > a))=true->0<=d5.2)/\((decide (d5.2 > a))=true->d5.2<d5.1.length)/\((decide (d5.2 > a))=true->InK .i64 (d5.2-(1:Int)))/\((decide (d5.2 > a))=true->0<=(d5.2-(1:Int)))/\((decide (d5.2 > a))=true->(d5.2-(1:Int))<d5.1.length)/\((decide (d5.2 > a))=true->p.1 (((gD d5.1 d5.2 zD).1,((gD d5.1 d5.2 zD).2.1,((gD d5.1 d5.2 zD).2.2.1,((gD d5.1 d5.2 zD).2.2.2.1,(gD d5.1 d5.2 zD).2.2.2.2)))),((gD d5.1 (d5.2-(1:Int)) zD).1,((gD d5.1 (d5.2-(1:Int)) zD).2.1,((gD d5.1 (d5.2-(1:Int)) zD).2.2.1,((gD d5.1 (d5.2-(1:Int)) zD).2.2.2.1,(gD d5.1 (d5.2-(1:Int)) zD).2.2.2.2))))))/\(((decide (d5.2 > a))&&(decide ((p.2 (((gD d5.1 d5.2 zD).1,((gD d5.1 d5.2 zD).2.1,((gD d5.1 d5.2 zD).2.2.1,((gD d5.1 d5.2 zD).2.2.2.1,(gD d5.1 d5.2 zD).2.2.2.2)))),((gD d5.1 (d5.2-(1:Int)) zD).1,((gD d5.1 (d5.2-(1:Int)) zD).2.1,((gD d5.1 (d5.2-(1:Int)) zD).2.2.1,((gD d5.1 (d5.2-(1:Int)) zD).2.2.2.1,(gD d5.1 (d5.2-(1:Int)) zD).2.2.2.2))))))<(0:Int))))=true ->
     (I64 (d5.2-(1:Int)))/\(I64 (d5.2-(1:Int)))/\(0<=(d5.2-(1:Int)))/\((d5.2-(1:Int))<d5.1.length)/\(0<=d5.2)/\(d5.2<d5.1.length)/\(0<=d5.2)/\(d5.2<d5.1.length)/\(0<=(d5.2-(1:Int)))/\((d5.2-(1:Int))<(List.length (sT d5.1 d5.2 ((gD d5.1 (d5.2-(1:Int)) zD).1,((gD d5.1 (d5.2-(1:Int)) zD).2.1,((gD d5.1 (d5.2-(1:Int)) zD).2.2.1,((gD d5.1 (d5.2-(1:Int)) zD).2.2.2.1,(gD d5.1 (d5.2-(1:Int)) zD).2.2.2.2)))))))/\(I64 (d5.2-(1:Int)))/\(∃ d6:(List (Int×Int×Int×Int×Bool))×Int,((True/\a=a/\b=b/\(SV.pf [(.pair (.i .i64) (.pair (.i .i64) (.pair (.i .i64) (.pair (.i .i64) .bo)))),(.pair (.i .i64) (.pair (.i .i64) (.pair (.i .i64) (.pair (.i .i64) .bo))))] (.i .i64) p.1 p.2=SV.pf [(.pair (.i .i64) (.pair (.i .i64) (.pair (.i .i64) (.pair (.i .i64) .bo)))),(.pair (.i .i64) (.pair (.i .i64) (.pair (.i .i64) (.pair (.i .i64) .bo))))] (.i .i64) p.1 p.2)/\e5.2=e5.2/\(d5.2-(1:Int))=d6.2/\True)/\(((sT (sT d5.1 d5.2 ((gD d5.1 (d5.2-(1:Int)) zD).1,((gD d5.1 (d5.2-(1:Int)) zD).2.1,((gD d5.1 (d5.2-(1:Int)) zD).2.2.1,((gD d5.1 (d5.2-(1:Int)) zD).2.2.2.1,(gD d5.1 (d5.2-(1:Int)) zD).2.2.2.2))))) (d5.2-(1:Int)) ((gD d5.1 d5.2 zD).1,((gD d5.1 d5.2 zD).2.1,((gD d5.1 d5.2 zD).2.2.1,((gD d5.1 d5.2 zD).2.2.2.1,(gD d5.1 d5.2 zD).2.2.2.2)))))=d6.1/\e5.1=e5.1)/\(vals=vals/\(True/\nS))/\True))/\q5 d6)) /\
    (((decide (d5.2 > a))&&(decide ((p.2 (((gD d5.1 d5.2 zD).1,((gD d5.1 d5.2 zD).2.1,((gD d5.1 d5.2 zD).2.2.1,((gD d5.1 d5.2 zD).2.2.2.1,(gD d5.1 d5.2 zD).2.2.2.2)))),((gD d5.1 (d5.2-(1:Int)) zD).1,((gD d5.1 (d5.2-(1:Int)) zD).2.1,((gD d5.1 (d5.2-(1:Int)) zD).2.2.1,((gD d5.1 (d5.2-(1:Int)) zD).2.2.2.1,(gD d5.1 (d5.2-(1:Int)) zD).2.2.2.2))))))<(0:Int))))=false ->
     (I64 (e5.2+(1:Int)))/\(∃ d7:(List (Int×Int×Int×Int×Bool))×Bool×Int,((True/\a=a/\b=b/\(SV.pf [(.pair (.i .i64) (.pair (.i .i64) (.pair (.i .i64) (.pair (.i .i64) .bo)))),(.pair (.i .i64) (.pair (.i .i64) (.pair (.i .i64) (.pair (.i .i64) .bo))))] (.i .i64) p.1 p.2=SV.pf [(.pair (.i .i64) (.pair (.i .i64) (.pair (.i .i64) (.pair (.i .i64) .bo)))),(.pair (.i .i64) (.pair (.i .i64) (.pair (.i .i64) (.pair (.i .i64) .bo))))] (.i .i64) p.1 p.2)/\(e5.2+(1:Int))=d7.2.2/\True)/\((d5.1=d7.1/\e5.1=d7.2.1)/\(vals=vals/\(True/\nS))/\True))/\q2 d7))) d50) /\
  ((decide (d2.2.2<b))=false ->
   (vals=vals/\(True/\nS)/\(nS)/\(d2.1=xs/\d2.2.1=nl)))) d20
def Zw:Cx:=⟨[],[],53,[],0,[],[],[],[],false,[],[],[],[]⟩
def Zu (xs:List (Int×Int×Int×Int×Bool)) (nl:Bool) (a:Int) (b:Int) (p:((Int×Int×Int×Int×Bool)×(Int×Int×Int×Int×Bool)->Prop)×((Int×Int×Int×Int×Bool)×(Int×Int×Int×Int×Bool)->Int)) (vals:List Value):List (Nat×LoopAnn):=[(0,⟨Unit,(List (Int×Int×Int×Int×Bool))×Bool×Int,[0,1,2,3,8],λe x=>[.lst 0,.val (.i .i64) a,.val (.i .i64) b,.pf [(.pair (.i .i64) (.pair (.i .i64) (.pair (.i .i64) (.pair (.i .i64) .bo)))),(.pair (.i .i64) (.pair (.i .i64) (.pair (.i .i64) (.pair (.i .i64) .bo))))] (.i .i64) p.1 p.2,.val (.i .i64) x.2.2],λe x=>[(0,.slot 0,.lst 36 (.pair (.i .i64) (.pair (.i .i64) (.pair (.i .i64) (.pair (.i .i64) .bo)))) x.1 x.2.1),(4000000,.key 4000000,.stk [.lst 0] vals)]⟩),
 (2,⟨Bool×Int,(List (Int×Int×Int×Int×Bool))×Int,[0,1,2,3,8,9],λe x=>[.lst 0,.val (.i .i64) a,.val (.i .i64) b,.pf [(.pair (.i .i64) (.pair (.i .i64) (.pair (.i .i64) (.pair (.i .i64) .bo)))),(.pair (.i .i64) (.pair (.i .i64) (.pair (.i .i64) (.pair (.i .i64) .bo))))] (.i .i64) p.1 p.2,.val (.i .i64) e.2,.val (.i .i64) x.2],λe x=>[(0,.slot 0,.lst 36 (.pair (.i .i64) (.pair (.i .i64) (.pair (.i .i64) (.pair (.i .i64) .bo)))) x.1 e.1),(4000000,.key 4000000,.stk [.lst 0] vals)]⟩)]
theorem Xv (xs:List (Int×Int×Int×Int×Bool)) (nl:Bool) (d:Int×Int×(((Int×Int×Int×Int×Bool)×(Int×Int×Int×Int×Bool)->Prop)×((Int×Int×Int×Int×Bool)×(Int×Int×Int×Int×Bool)->Int))):(∀ vals,gwp Zw (Zu xs nl d.1 d.2.1 d.2.2 vals) Z9a 0 (Q78 vals [] (Zr xs nl d) (.lst 36 (.pair (.i .i64) (.pair (.i .i64) (.pair (.i .i64) (.pair (.i .i64) .bo)))) (Zm xs nl d) nl) (.lst 0)) (MX 53 (.lst 0) (.lst 36 (.pair (.i .i64) (.pair (.i .i64) (.pair (.i .i64) (.pair (.i .i64) .bo)))) xs nl) vals (AL.can Zv d)))=Qo xs nl d.1 d.2.1 d.2.2:=by kernel_rfl
abbrev Xt:Prop:=XOk Tryz.prog 143 QE
theorem Xw (h:∀ (xs:List (Int×Int×Int×Int×Bool)) (nl:Bool) (a:Int) (b:Int) (p:((Int×Int×Int×Int×Bool)×(Int×Int×Int×Int×Bool)->Prop)×((Int×Int×Int×Int×Bool)×(Int×Int×Int×Int×Bool)->Int)),(a=0/\b=xs.length/\xs.length<=1/\(∀ x∈xs,∀ y∈xs,p.1 (x,y)))->Qo xs nl a b p):XOk Tryz.prog 143 QE :=
 Eg Z0h mixed (AI .nil 3) (C:=Zw) ⟨.nil,XsOk.nil,ItsOk.nil,YlOk.nil,IysOk.nil,XfOk.nil⟩ (L:=λxs nl (d:Int×Int×(((Int×Int×Int×Int×Bool)×(Int×Int×Int×Int×Bool)->Prop)×((Int×Int×Int×Int×Bool)×(Int×Int×Int×Int×Bool)->Int))) vals=>Zu xs nl d.1 d.2.1 d.2.2 vals) (V:=λxs nl (d:Int×Int×(((Int×Int×Int×Int×Bool)×(Int×Int×Int×Int×Bool)->Prop)×((Int×Int×Int×Int×Bool)×(Int×Int×Int×Int×Bool)->Int)))=>Qo xs nl d.1 d.2.1 d.2.2) Xv λxs nl d hp=>h xs nl d.1 d.2.1 d.2.2 hp
theorem Xj:Xt:=Xw λxs nl a b p h=>by
 obtain⟨rfl,rfl,h3,h4⟩:=h;unfold Qo;(try delta lI gD sT I64 Q1 rg rb zD nS);intro vals;refine⟨by rw[Qf];omega,(),(xs,nl,0+1),(by and_intros<;>first|rfl|trivial|simp),?_⟩;refine⟨λd=>d=(xs,nl,0+1),λ_=>0,rfl,?_⟩;rintro _ rfl;refine⟨λc=>?_,λ_=>(by and_intros<;>first|rfl|trivial|simp)⟩;have c:(0+1:Int)<xs.length:=by simpa using c
 omega
def Ja:AL (Int×(((Int×Int×Int×Int×Bool)×(Int×Int×Int×Int×Bool)->Prop)×((Int×Int×Int×Int×Bool)×(Int×Int×Int×Int×Bool)->Int))):=(.cons (.k (.i .i64)) (.one (.fn [(.pair (.i .i64) (.pair (.i .i64) (.pair (.i .i64) (.pair (.i .i64) .bo)))),(.pair (.i .i64) (.pair (.i .i64) (.pair (.i .i64) (.pair (.i .i64) .bo))))] (.i .i64))))
def Wu (xs:List (Int×Int×Int×Int×Bool)) (nl:Bool) (d:Int×(((Int×Int×Int×Int×Bool)×(Int×Int×Int×Int×Bool)->Prop)×((Int×Int×Int×Int×Bool)×(Int×Int×Int×Int×Bool)->Int))):Prop:=d.1=xs.length/\xs.length<=1/\(∀ x∈xs,∀ y∈xs,d.2.1 (x,y))
def ZZ (xs:List (Int×Int×Int×Int×Bool)) (nl:Bool) (d:Int×(((Int×Int×Int×Int×Bool)×(Int×Int×Int×Int×Bool)->Prop)×((Int×Int×Int×Int×Bool)×(Int×Int×Int×Int×Bool)->Int))):SV:=.tup []
def ZM (xs:List (Int×Int×Int×Int×Bool)) (nl:Bool) (d:Int×(((Int×Int×Int×Int×Bool)×(Int×Int×Int×Int×Bool)->Prop)×((Int×Int×Int×Int×Bool)×(Int×Int×Int×Int×Bool)->Int))):List (Int×Int×Int×Int×Bool):=xs
def Ze:XSp:=Q3e (gap [] 3) (Q75 36 (.pair (.i .i64) (.pair (.i .i64) (.pair (.i .i64) (.pair (.i .i64) .bo)))) Ja Wu ZZ ZM)
def Qz (xs:List (Int×Int×Int×Int×Bool)) (nl:Bool) (n:Int) (p:((Int×Int×Int×Int×Bool)×(Int×Int×Int×Int×Bool)->Prop)×((Int×Int×Int×Int×Bool)×(Int×Int×Int×Int×Bool)->Int)):Prop:=∀ vals:List Value,
 ∃ (e3:Unit) (d30:Int×Int),((True/\n=n/\(SV.pf [(.pair (.i .i64) (.pair (.i .i64) (.pair (.i .i64) (.pair (.i .i64) .bo)))),(.pair (.i .i64) (.pair (.i .i64) (.pair (.i .i64) (.pair (.i .i64) .bo))))] (.i .i64) p.1 p.2=SV.pf [(.pair (.i .i64) (.pair (.i .i64) (.pair (.i .i64) (.pair (.i .i64) .bo)))),(.pair (.i .i64) (.pair (.i .i64) (.pair (.i .i64) (.pair (.i .i64) .bo))))] (.i .i64) p.1 p.2)/\(20:Int)=(20:Int)/\(0:Int)=d30.1/\(20:Int)=d30.2/\True)/\((xs=xs/\nl=nl)/\(vals=vals/\(True/\nS))/\True)) /\
 LoopP (λ(d3:Int×Int) (q3:(Int×Int)->Prop) =>
  ((decide (d3.2<=n))=true ->
   (d3.1=0/\d3.2=xs.length/\xs.length<=1/\(∀ x∈xs,∀ y∈xs,(λ(x1:(Int×Int×Int×Int×Bool)×(Int×Int×Int×Int×Bool))=>p.1 ((x1.1.1,(x1.1.2.1,(x1.1.2.2.1,(x1.1.2.2.2.1,x1.1.2.2.2.2)))),(x1.2.1,(x1.2.2.1,(x1.2.2.2.1,(x1.2.2.2.2.1,x1.2.2.2.2.2)))))) (x,y)))/\(I64 (d3.2+(20:Int)))/\(∃ d4:Int×Int,((True/\n=n/\(SV.pf [(.pair (.i .i64) (.pair (.i .i64) (.pair (.i .i64) (.pair (.i .i64) .bo)))),(.pair (.i .i64) (.pair (.i .i64) (.pair (.i .i64) (.pair (.i .i64) .bo))))] (.i .i64) p.1 p.2=SV.pf [(.pair (.i .i64) (.pair (.i .i64) (.pair (.i .i64) (.pair (.i .i64) .bo)))),(.pair (.i .i64) (.pair (.i .i64) (.pair (.i .i64) (.pair (.i .i64) .bo))))] (.i .i64) p.1 p.2)/\(20:Int)=(20:Int)/\d3.2=d4.1/\(d3.2+(20:Int))=d4.2/\True)/\((xs=xs/\nl=nl)/\(vals=vals/\(True/\nS))/\True))/\q3 d4)) /\
  ((decide (d3.2<=n))=false ->
   (d3.1=0/\n=xs.length/\xs.length<=1/\(∀ x∈xs,∀ y∈xs,(λ(x2:(Int×Int×Int×Int×Bool)×(Int×Int×Int×Int×Bool))=>p.1 ((x2.1.1,(x2.1.2.1,(x2.1.2.2.1,(x2.1.2.2.2.1,x2.1.2.2.2.2)))),(x2.2.1,(x2.2.2.1,(x2.2.2.2.1,(x2.2.2.2.2.1,x2.2.2.2.2.2)))))) (x,y)))/\∃ (e7:Unit) (d70:Bool×Int),((True/\n=n/\(SV.pf [(.pair (.i .i64) (.pair (.i .i64) (.pair (.i .i64) (.pair (.i .i64) .bo)))),(.pair (.i .i64) (.pair (.i .i64) (.pair (.i .i64) (.pair (.i .i64) .bo))))] (.i .i64) p.1 p.2=SV.pf [(.pair (.i .i64) (.pair (.i .i64) (.pair (.i .i64) (.pair (.i .i64) .bo)))),(.pair (.i .i64) (.pair (.i .i64) (.pair (.i .i64) (.pair (.i .i64) .bo))))] (.i .i64) p.1 p.2)/\(20:Int)=d70.2/\True)/\((xs=xs/\nl=d70.1)/\(vals=vals/\(True/\nS))/\True)) /\
   LoopP (λ(d7:Bool×Int) (q7:(Bool×Int)->Prop) =>
    ((decide (d7.2<n))=true ->
     (I64 ((2:Int)*d7.2))/\∃ (ae:Bool×Int×Int) (d100:Unit),((True/\n=n/\(SV.pf [(.pair (.i .i64) (.pair (.i .i64) (.pair (.i .i64) (.pair (.i .i64) .bo)))),(.pair (.i .i64) (.pair (.i .i64) (.pair (.i .i64) (.pair (.i .i64) .bo))))] (.i .i64) p.1 p.2=SV.pf [(.pair (.i .i64) (.pair (.i .i64) (.pair (.i .i64) (.pair (.i .i64) .bo)))),(.pair (.i .i64) (.pair (.i .i64) (.pair (.i .i64) (.pair (.i .i64) .bo))))] (.i .i64) p.1 p.2)/\d7.2=ae.2.1/\(0:Int)=(0:Int)/\((2:Int)*d7.2)=ae.2.2/\True)/\((xs=xs/\d7.1=ae.1)/\(vals=vals/\(True/\nS))/\True)) /\
     LoopP (λ(d10:Unit) (iI:(Unit)->Prop) =>
      ((decide (ae.2.2<=n))=true ->
       (I64 ((0:Int)+ae.2.1))/\False) /\
      ((decide (ae.2.2<=n))=false ->
       (I64 ((0:Int)+ae.2.1))/\((decide (((0:Int)+ae.2.1)<n))=true ->
        False) /\
       ((decide (((0:Int)+ae.2.1)<n))=false ->
        (I64 (ae.2.1*(2:Int)))/\(∃ d11:Bool×Int,((True/\n=n/\(SV.pf [(.pair (.i .i64) (.pair (.i .i64) (.pair (.i .i64) (.pair (.i .i64) .bo)))),(.pair (.i .i64) (.pair (.i .i64) (.pair (.i .i64) (.pair (.i .i64) .bo))))] (.i .i64) p.1 p.2=SV.pf [(.pair (.i .i64) (.pair (.i .i64) (.pair (.i .i64) (.pair (.i .i64) .bo)))),(.pair (.i .i64) (.pair (.i .i64) (.pair (.i .i64) (.pair (.i .i64) .bo))))] (.i .i64) p.1 p.2)/\(ae.2.1*(2:Int))=d11.2/\True)/\((xs=xs/\ae.1=d11.1)/\(vals=vals/\(True/\nS))/\True))/\q7 d11)))) d100) /\
    ((decide (d7.2<n))=false ->
     (vals=vals/\(True/\nS)/\(nS)/\(xs=xs/\d7.1=nl)))) d70)) d30
def J9:Cx:=⟨[],[],63,[],0,[(143,QE),(144,Z4e)],[],[],[],false,[],[],[],[]⟩
def J6 (xs:List (Int×Int×Int×Int×Bool)) (nl:Bool) (n:Int) (p:((Int×Int×Int×Int×Bool)×(Int×Int×Int×Int×Bool)->Prop)×((Int×Int×Int×Int×Bool)×(Int×Int×Int×Int×Bool)->Int)) (vals:List Value):List (Nat×LoopAnn):=[(0,⟨Unit,Int×Int,[0,1,2,6,7,8],λe x=>[.lst 0,.val (.i .i64) n,.pf [(.pair (.i .i64) (.pair (.i .i64) (.pair (.i .i64) (.pair (.i .i64) .bo)))),(.pair (.i .i64) (.pair (.i .i64) (.pair (.i .i64) (.pair (.i .i64) .bo))))] (.i .i64) p.1 p.2,.val (.i .i64) (20:Int),.val (.i .i64) x.1,.val (.i .i64) x.2],λe x=>[(0,.slot 0,.lst 36 (.pair (.i .i64) (.pair (.i .i64) (.pair (.i .i64) (.pair (.i .i64) .bo)))) xs nl),(4000000,.key 4000000,.stk [.lst 0] vals)]⟩),
 (2,⟨Unit,Bool×Int,[0,1,2,6],λe x=>[.lst 0,.val (.i .i64) n,.pf [(.pair (.i .i64) (.pair (.i .i64) (.pair (.i .i64) (.pair (.i .i64) .bo)))),(.pair (.i .i64) (.pair (.i .i64) (.pair (.i .i64) (.pair (.i .i64) .bo))))] (.i .i64) p.1 p.2,.val (.i .i64) x.2],λe x=>[(0,.slot 0,.lst 36 (.pair (.i .i64) (.pair (.i .i64) (.pair (.i .i64) (.pair (.i .i64) .bo)))) xs x.1),(4000000,.key 4000000,.stk [.lst 0] vals)]⟩),
 (4,⟨Bool×Int×Int,Unit,[0,1,2,6,7,8],λe x=>[.lst 0,.val (.i .i64) n,.pf [(.pair (.i .i64) (.pair (.i .i64) (.pair (.i .i64) (.pair (.i .i64) .bo)))),(.pair (.i .i64) (.pair (.i .i64) (.pair (.i .i64) (.pair (.i .i64) .bo))))] (.i .i64) p.1 p.2,.val (.i .i64) e.2.1,.val (.i .i64) (0:Int),.val (.i .i64) e.2.2],λe x=>[(0,.slot 0,.lst 36 (.pair (.i .i64) (.pair (.i .i64) (.pair (.i .i64) (.pair (.i .i64) .bo)))) xs e.1),(4000000,.key 4000000,.stk [.lst 0] vals)]⟩)]
theorem Wz (xs:List (Int×Int×Int×Int×Bool)) (nl:Bool) (d:Int×(((Int×Int×Int×Int×Bool)×(Int×Int×Int×Int×Bool)->Prop)×((Int×Int×Int×Int×Bool)×(Int×Int×Int×Int×Bool)->Int))):(∀ vals,gwp J9 (J6 xs nl d.1 d.2 vals) Z8g 0 (Q78 vals [] (ZZ xs nl d) (.lst 36 (.pair (.i .i64) (.pair (.i .i64) (.pair (.i .i64) (.pair (.i .i64) .bo)))) (ZM xs nl d) nl) (.lst 0)) (MX 63 (.lst 0) (.lst 36 (.pair (.i .i64) (.pair (.i .i64) (.pair (.i .i64) (.pair (.i .i64) .bo)))) xs nl) vals (AL.can Ja d)))=Qz xs nl d.1 d.2:=by kernel_rfl
abbrev WE:Prop:=XOk Tryz.prog 116 Ze
theorem WO (h:∀ (xs:List (Int×Int×Int×Int×Bool)) (nl:Bool) (n:Int) (p:((Int×Int×Int×Int×Bool)×(Int×Int×Int×Int×Bool)->Prop)×((Int×Int×Int×Int×Bool)×(Int×Int×Int×Int×Bool)->Int)),(n=xs.length/\xs.length<=1/\(∀ x∈xs,∀ y∈xs,p.1 (x,y)))->Qz xs nl n p):XOk Tryz.prog 116 Ze :=
 Eg Z0c mixed (AI .nil 3) (C:=J9) ⟨.nil,(XsOk.cons Xj (XsOk.cons Q8o XsOk.nil)),ItsOk.nil,YlOk.nil,IysOk.nil,XfOk.nil⟩ (L:=λxs nl (d:Int×(((Int×Int×Int×Int×Bool)×(Int×Int×Int×Int×Bool)->Prop)×((Int×Int×Int×Int×Bool)×(Int×Int×Int×Int×Bool)->Int))) vals=>J6 xs nl d.1 d.2 vals) (V:=λxs nl (d:Int×(((Int×Int×Int×Int×Bool)×(Int×Int×Int×Int×Bool)->Prop)×((Int×Int×Int×Int×Bool)×(Int×Int×Int×Int×Bool)->Int)))=>Qz xs nl d.1 d.2) Wz λxs nl d hp=>h xs nl d.1 d.2 hp
theorem Wv:WE:=WO λxs nl n p h=>by
 obtain⟨rfl,h3,h4⟩:=h;unfold Qz;(try delta lI gD sT I64 Q1 rg rb zD nS);intro vals;refine⟨(),(0,20),(by and_intros<;>first|rfl|trivial|simp),?_⟩;refine⟨λd=>d=(0,20),λ_=>0,rfl,?_⟩;rintro _ rfl;refine⟨λc=>?_,λ_=>⟨⟨rfl,rfl,h3,h4⟩,(),(nl,20),(by and_intros<;>first|rfl|trivial|simp),?_⟩⟩
 .have c:(20:Int)<=xs.length:=by simpa using c
  omega
 .refine⟨λd=>d=(nl,20),λ_=>0,rfl,?_⟩;rintro _ rfl;refine⟨λc=>?_,λ_=>(by and_intros<;>first|rfl|trivial|simp)⟩;have c:(20:Int)<xs.length:=by simpa using c
  omega
def QL:AL (((Int×Int×Int×Int×Bool)×(Int×Int×Int×Int×Bool)->Prop)×((Int×Int×Int×Int×Bool)×(Int×Int×Int×Int×Bool)->Int)):=(.one (.fn [(.pair (.i .i64) (.pair (.i .i64) (.pair (.i .i64) (.pair (.i .i64) .bo)))),(.pair (.i .i64) (.pair (.i .i64) (.pair (.i .i64) (.pair (.i .i64) .bo))))] (.i .i64)))
def J8 (xs:List (Int×Int×Int×Int×Bool)) (nl:Bool) (d:((Int×Int×Int×Int×Bool)×(Int×Int×Int×Int×Bool)->Prop)×((Int×Int×Int×Int×Bool)×(Int×Int×Int×Int×Bool)->Int)):Prop:=xs.length<=1/\(∀ x∈xs,∀ y∈xs,d.1 (x,y))
def QH (xs:List (Int×Int×Int×Int×Bool)) (nl:Bool) (d:((Int×Int×Int×Int×Bool)×(Int×Int×Int×Int×Bool)->Prop)×((Int×Int×Int×Int×Bool)×(Int×Int×Int×Int×Bool)->Int)):SV:=.tup []
def QG (xs:List (Int×Int×Int×Int×Bool)) (nl:Bool) (d:((Int×Int×Int×Int×Bool)×(Int×Int×Int×Int×Bool)->Prop)×((Int×Int×Int×Int×Bool)×(Int×Int×Int×Int×Bool)->Int)):List (Int×Int×Int×Int×Bool):=xs
def Q9:XSp:=Q3e (gap [(79,Jm)] 3) (Q75 36 (.pair (.i .i64) (.pair (.i .i64) (.pair (.i .i64) (.pair (.i .i64) .bo)))) QL J8 QH QG)
def Q8 (xs:List (Int×Int×Int×Int×Bool)) (nl:Bool) (p:((Int×Int×Int×Int×Bool)×(Int×Int×Int×Int×Bool)->Prop)×((Int×Int×Int×Int×Bool)×(Int×Int×Int×Int×Bool)->Int)):Prop:=∀ vals:List Value,
 ((lI xs)=xs.length/\xs.length<=1/\(∀ x∈xs,∀ y∈xs,(λ(x1:(Int×Int×Int×Int×Bool)×(Int×Int×Int×Int×Bool))=>p.1 ((x1.1.1,(x1.1.2.1,(x1.1.2.2.1,(x1.1.2.2.2.1,x1.1.2.2.2.2)))),(x1.2.1,(x1.2.2.1,(x1.2.2.2.1,(x1.2.2.2.2.1,x1.2.2.2.2.2)))))) (x,y)))/\(vals=vals/\(True/\nS)/\(nS)/\(xs=xs/\nl=nl))
def QN:Cx:=⟨[],[],9,[],0,[(116,Ze)],[],[],[],false,[],[],[],[]⟩
def QM (xs:List (Int×Int×Int×Int×Bool)) (nl:Bool) (p:((Int×Int×Int×Int×Bool)×(Int×Int×Int×Int×Bool)->Prop)×((Int×Int×Int×Int×Bool)×(Int×Int×Int×Int×Bool)->Int)) (vals:List Value):List (Nat×LoopAnn):=[]
theorem Jb (xs:List (Int×Int×Int×Int×Bool)) (nl:Bool) (d:((Int×Int×Int×Int×Bool)×(Int×Int×Int×Int×Bool)->Prop)×((Int×Int×Int×Int×Bool)×(Int×Int×Int×Int×Bool)->Int)):(∀ vals,gwp QN (QM xs nl d vals) c78 0 (Q78 vals [] (QH xs nl d) (.lst 36 (.pair (.i .i64) (.pair (.i .i64) (.pair (.i .i64) (.pair (.i .i64) .bo)))) (QG xs nl d) nl) (.lst 0)) (MX 9 (.lst 0) (.lst 36 (.pair (.i .i64) (.pair (.i .i64) (.pair (.i .i64) (.pair (.i .i64) .bo)))) xs nl) vals (AL.can QL d)))=Q8 xs nl d:=by kernel_rfl
abbrev Jd:Prop:=XOk Tryz.prog 78 Q9
theorem Jc (h:∀ (xs:List (Int×Int×Int×Int×Bool)) (nl:Bool) (p:((Int×Int×Int×Int×Bool)×(Int×Int×Int×Int×Bool)->Prop)×((Int×Int×Int×Int×Bool)×(Int×Int×Int×Int×Bool)->Int)),(xs.length<=1/\(∀ x∈xs,∀ y∈xs,p.1 (x,y)))->Q8 xs nl p):XOk Tryz.prog 78 Q9 :=
 Eg Z5v mixed (AI (.cons WD .nil) 3) (C:=QN) ⟨.nil,(XsOk.cons Wv XsOk.nil),ItsOk.nil,YlOk.nil,IysOk.nil,XfOk.nil⟩ (L:=λxs nl (d:((Int×Int×Int×Int×Bool)×(Int×Int×Int×Int×Bool)->Prop)×((Int×Int×Int×Int×Bool)×(Int×Int×Int×Int×Bool)->Int)) vals=>QM xs nl d vals) (V:=λxs nl (d:((Int×Int×Int×Int×Bool)×(Int×Int×Int×Int×Bool)->Prop)×((Int×Int×Int×Int×Bool)×(Int×Int×Int×Int×Bool)->Int))=>Q8 xs nl d) Jb λxs nl d hp=>h xs nl d hp
theorem QI:Jd:=Jc λxs nl p h=>by unfold Q8;(try delta lI gD sT I64 Q1 rg rb zD nS);intro vals;exact⟨⟨rfl,h.1,h.2⟩,(by and_intros<;>first|rfl|trivial|simp)⟩
def VP:AL ((Int×List Int×Int×List Int)×Unit):=(.cons (.agg (.cons (.k (.i .i64)) (.cons (.k (.list (.i .i64))) (.cons (.k (.i .i64)) (.one (.k (.list (.i .i64)))))))) (.one .nilS))
def Df (d:(Int×List Int×Int×List Int)×Unit):Prop:=Q6 d.1.1 d.1.2.1 d.1.2.2.1 d.1.2.2.2=0/\d.1.2.1.length<=110/\d.1.2.2.2.length<=110
def V4 (d:(Int×List Int×Int×List Int)×Unit):SV:=.lst 0
def V3 (d:(Int×List Int×Int×List Int)×Unit):List OB:=[.lst 9 .st (XR d.1.2.1 d.1.2.2.1 d.1.2.2.2 []) false]
def Ji:CSp:=Wt VP Df V4 V3
abbrev Ua :=(List.isEmpty ([]:List Dmg))
abbrev D7 :=((nS)/\(nS))
abbrev Rl :=(([]:List Dmg)=([]:List Dmg)/\Ua=Ua)
abbrev BV :=(Int×Int×Int×Int×Bool)
def XW (hk:Int) (lw:List Int) (hd:Int) (rows:List Int):Prop :=
 (rows≠[]/\rows.length<=110)/\(True)/\(([]:List Dmg).length<=1/\(∀ x∈([]:List Dmg),∀ y∈([]:List Dmg),(λ(x1:BV×BV)=>True) (x,y)))/\∀ w1:List Value,w1=w1/\∃ (e4:Unit) (d40:(List Int)×(List (Int×Bool))×Int),((True/\True/\True/\True/\True/\(lI ([]:List Dmg))=(lI ([]:List Dmg))/\(0:Int)=d40.2.2/\True)/\((hk=hk/\lw=lw/\hd=hd/\rows=rows/\nS)/\(rows=d40.1/\false=false)/\(([]:List (Int×Bool))=d40.2.1)/\True/\(([]:List Dmg)=([]:List Dmg)/\true=Ua)/\True)) /\
 LoopP (λ(d4:(List Int)×(List (Int×Bool))×Int) (q4:((List Int)×(List (Int×Bool))×Int)->Prop) =>
  ((decide (d4.2.2<(lI ([]:List Dmg))))=true ->
   (0<=d4.2.2)/\(d4.2.2<(List.length ([]:List Dmg)))/\(1<=(gD ([]:List Dmg) d4.2.2 zD).1)/\((gD ([]:List Dmg) d4.2.2 zD).1<=((5:Nat):Int)) /\
   ((gD ([]:List Dmg) d4.2.2 zD).1=(1:Int) ->
    ∀ w5:List Value,(0<=(gD ([]:List Dmg) d4.2.2 zD).2.1)/\((gD ([]:List Dmg) d4.2.2 zD).2.1<d4.1.length)/\(0<=(gD ([]:List Dmg) d4.2.2 zD).2.2.1)/\(I64 (YN .i64 (1:Int) (gD ([]:List Dmg) d4.2.2 zD).2.2.1))/\(0<=(gD ([]:List Dmg) d4.2.2 zD).2.1)/\((gD ([]:List Dmg) d4.2.2 zD).2.1<d4.1.length)/\w5=w5/\(I64 (d4.2.2+(1:Int)))/\(∃ d6:(List Int)×(List (Int×Bool))×Int,((True/\True/\True/\True/\True/\(lI ([]:List Dmg))=(lI ([]:List Dmg))/\(d4.2.2+(1:Int))=d6.2.2/\True)/\((hk=hk/\lw=lw/\hd=hd/\rows=rows/\nS)/\((List.set d4.1 (Int.toNat (gD ([]:List Dmg) d4.2.2 zD).2.1) (QB .xor .i64 (List.getD d4.1 (Int.toNat (gD ([]:List Dmg) d4.2.2 zD).2.1) 0) (YN .i64 (1:Int) (gD ([]:List Dmg) d4.2.2 zD).2.2.1)))=d6.1/\false=false)/\(d4.2.1=d6.2.1)/\True/\Rl/\True))/\q4 d6)) /\
   ((gD ([]:List Dmg) d4.2.2 zD).1=(2:Int) ->
    ∀ w7:List Value,∃ (ae:Int×Int×Int×Int×Bool×Int×Int×(List Int)×Int×(List Int)×(List (Int×Bool))×Int×Int×Int×Int×Bool×(List BV)×Int×Int×Bool×Int×Int×Int×Int×Bool×Int×Int×(List Int)×Int×(List Int)×Int×Int×Int×Int×Bool×(List Value)) (d100:(List Int)×Int),((True/\True/\(lI d4.1)=(rb ae).2.1/\(0:Int)=d100.2/\True)/\((d4.1=d100.1/\false=false)/\((gD ([]:List Dmg) d4.2.2 zD).1=ae.1/\(gD ([]:List Dmg) d4.2.2 zD).2.1=ae.2.1/\(gD ([]:List Dmg) d4.2.2 zD).2.2.1=ae.2.2.1/\(gD ([]:List Dmg) d4.2.2 zD).2.2.2.1=ae.2.2.2.1/\(gD ([]:List Dmg) d4.2.2 zD).2.2.2.2=(rb ae).1/\nS)/\((Q1 (Q1 ae)).2.2.2=w7/\(True/\True/\True/\True/\True/\True/\True/\True/\True/\True/\True/\True/\True/\True/\True/\True/\True/\True/\True/\True/\True/\True/\True/\True/\True/\True/\(lI ([]:List Dmg))=(Q1 ae).2.1/\d4.2.2=(Q1 ae).2.2.1/\(decide (d4.2.2<(lI ([]:List Dmg))))=(Q1 ae).2.2.2.1/\True/\((gD ([]:List Dmg) d4.2.2 zD).1=(rb (Q1 ae)).1/\(gD ([]:List Dmg) d4.2.2 zD).2.1=(rb (Q1 ae)).2.1/\(gD ([]:List Dmg) d4.2.2 zD).2.2.1=(rb (Q1 ae)).2.2.1/\(gD ([]:List Dmg) d4.2.2 zD).2.2.2.1=(rb (Q1 ae)).2.2.2.1/\(gD ([]:List Dmg) d4.2.2 zD).2.2.2.2=(rg (Q1 ae)).1/\nS)/\True/\True/\(2:Int)=(rg (Q1 ae)).2.1/\D7/\(hk=(rg (Q1 ae)).2.2.1/\lw=(rg (Q1 ae)).2.2.2.1/\hd=(rb (rg (Q1 ae))).1/\rows=(rb (rg (Q1 ae))).2.1/\nS)/\((gD ([]:List Dmg) d4.2.2 zD).1=(rb (rg (Q1 ae))).2.2.1/\(gD ([]:List Dmg) d4.2.2 zD).2.1=(rb (rg (Q1 ae))).2.2.2.1/\(gD ([]:List Dmg) d4.2.2 zD).2.2.1=(Q1 (Q1 ae)).1/\(gD ([]:List Dmg) d4.2.2 zD).2.2.2.1=(Q1 (Q1 ae)).2.1/\(gD ([]:List Dmg) d4.2.2 zD).2.2.2.2=(Q1 (Q1 ae)).2.2.1/\nS)/\True/\True/\True/\True/\True/\True/\True/\True/\True/\True/\True/\True/\True/\True/\True/\True/\True/\True/\True/\True/\True/\True/\True/\True/\True/\True/\True/\True/\True/\True/\True/\True/\True/\True/\True/\True/\True/\True/\True/\True/\True/\True/\nS))/\(hk=(rb ae).2.2.1/\lw=(rb ae).2.2.2.1/\hd=(rg ae).1/\rows=(rg ae).2.1/\nS)/\(d4.2.1=(rg ae).2.2.1)/\True/\((gD ([]:List Dmg) d4.2.2 zD).1=(rg ae).2.2.2.1/\(gD ([]:List Dmg) d4.2.2 zD).2.1=(rb (rg ae)).1/\(gD ([]:List Dmg) d4.2.2 zD).2.2.1=(rb (rg ae)).2.1/\(gD ([]:List Dmg) d4.2.2 zD).2.2.2.1=(rb (rg ae)).2.2.1/\(gD ([]:List Dmg) d4.2.2 zD).2.2.2.2=(rb (rg ae)).2.2.2.1/\nS)/\(([]:List Dmg)=(Q1 ae).1/\Ua=(List.isEmpty (Q1 ae).1))/\True)) /\
    LoopP (λ(d10:(List Int)×Int) (iI:((List Int)×Int)->Prop) =>
     ((decide (d10.2<(rb ae).2.1))=true ->
      (0<=d10.2)/\(d10.2<d10.1.length)/\(0<=ae.2.2.1)/\(I64 (YN .i64 (1:Int) ae.2.2.1))/\(0<=d10.2)/\(d10.2<d10.1.length)/\((!(rb ae).1)=true ->
       (0<=d10.2)/\(d10.2<(List.length (sT d10.1 d10.2 (QB .or .i64 (gD d10.1 d10.2 0) (YN .i64 (1:Int) ae.2.2.1)))))/\(0<=ae.2.2.1)/\(I64 (YN .i64 (1:Int) ae.2.2.1))/\(0<=d10.2)/\(d10.2<(List.length (sT d10.1 d10.2 (QB .or .i64 (gD d10.1 d10.2 0) (YN .i64 (1:Int) ae.2.2.1)))))/\(I64 (d10.2+(1:Int)))/\(∃ d11:(List Int)×Int,((True/\True/\(rb ae).2.1=(rb ae).2.1/\(d10.2+(1:Int))=d11.2/\True)/\(((sT (sT d10.1 d10.2 (QB .or .i64 (gD d10.1 d10.2 0) (YN .i64 (1:Int) ae.2.2.1))) d10.2 (QB .xor .i64 (gD (sT d10.1 d10.2 (QB .or .i64 (gD d10.1 d10.2 0) (YN .i64 (1:Int) ae.2.2.1))) d10.2 0) (YN .i64 (1:Int) ae.2.2.1)))=d11.1/\false=false)/\(ae.1=ae.1/\ae.2.1=ae.2.1/\ae.2.2.1=ae.2.2.1/\ae.2.2.2.1=ae.2.2.2.1/\(rb ae).1=(rb ae).1/\nS)/\((Q1 (Q1 ae)).2.2.2=(Q1 (Q1 ae)).2.2.2/\(True/\True/\True/\True/\True/\True/\True/\True/\True/\True/\True/\True/\True/\True/\True/\True/\True/\True/\True/\True/\True/\True/\True/\True/\True/\True/\(Q1 ae).2.1=(Q1 ae).2.1/\(Q1 ae).2.2.1=(Q1 ae).2.2.1/\(Q1 ae).2.2.2.1=(Q1 ae).2.2.2.1/\True/\((rb (Q1 ae)).1=(rb (Q1 ae)).1/\(rb (Q1 ae)).2.1=(rb (Q1 ae)).2.1/\(rb (Q1 ae)).2.2.1=(rb (Q1 ae)).2.2.1/\(rb (Q1 ae)).2.2.2.1=(rb (Q1 ae)).2.2.2.1/\(rg (Q1 ae)).1=(rg (Q1 ae)).1/\nS)/\True/\True/\(rg (Q1 ae)).2.1=(rg (Q1 ae)).2.1/\D7/\((rg (Q1 ae)).2.2.1=(rg (Q1 ae)).2.2.1/\(rg (Q1 ae)).2.2.2.1=(rg (Q1 ae)).2.2.2.1/\(rb (rg (Q1 ae))).1=(rb (rg (Q1 ae))).1/\(rb (rg (Q1 ae))).2.1=(rb (rg (Q1 ae))).2.1/\nS)/\((rb (rg (Q1 ae))).2.2.1=(rb (rg (Q1 ae))).2.2.1/\(rb (rg (Q1 ae))).2.2.2.1=(rb (rg (Q1 ae))).2.2.2.1/\(Q1 (Q1 ae)).1=(Q1 (Q1 ae)).1/\(Q1 (Q1 ae)).2.1=(Q1 (Q1 ae)).2.1/\(Q1 (Q1 ae)).2.2.1=(Q1 (Q1 ae)).2.2.1/\nS)/\True/\True/\True/\True/\True/\True/\True/\True/\True/\True/\True/\True/\True/\True/\True/\True/\True/\True/\True/\True/\True/\True/\True/\True/\True/\True/\True/\True/\True/\True/\True/\True/\True/\True/\True/\True/\True/\True/\True/\True/\True/\True/\nS))/\((rb ae).2.2.1=(rb ae).2.2.1/\(rb ae).2.2.2.1=(rb ae).2.2.2.1/\(rg ae).1=(rg ae).1/\(rg ae).2.1=(rg ae).2.1/\nS)/\((rg ae).2.2.1=(rg ae).2.2.1)/\True/\((rg ae).2.2.2.1=(rg ae).2.2.2.1/\(rb (rg ae)).1=(rb (rg ae)).1/\(rb (rg ae)).2.1=(rb (rg ae)).2.1/\(rb (rg ae)).2.2.1=(rb (rg ae)).2.2.1/\(rb (rg ae)).2.2.2.1=(rb (rg ae)).2.2.2.1/\nS)/\((Q1 ae).1=(Q1 ae).1/\(List.isEmpty (Q1 ae).1)=(List.isEmpty (Q1 ae).1))/\True))/\iI d11)) /\
      ((!(rb ae).1)=false ->
       (I64 (d10.2+(1:Int)))/\(∃ d12:(List Int)×Int,((True/\True/\(rb ae).2.1=(rb ae).2.1/\(d10.2+(1:Int))=d12.2/\True)/\(((sT d10.1 d10.2 (QB .or .i64 (gD d10.1 d10.2 0) (YN .i64 (1:Int) ae.2.2.1)))=d12.1/\false=false)/\(ae.1=ae.1/\ae.2.1=ae.2.1/\ae.2.2.1=ae.2.2.1/\ae.2.2.2.1=ae.2.2.2.1/\(rb ae).1=(rb ae).1/\nS)/\((Q1 (Q1 ae)).2.2.2=(Q1 (Q1 ae)).2.2.2/\(True/\True/\True/\True/\True/\True/\True/\True/\True/\True/\True/\True/\True/\True/\True/\True/\True/\True/\True/\True/\True/\True/\True/\True/\True/\True/\(Q1 ae).2.1=(Q1 ae).2.1/\(Q1 ae).2.2.1=(Q1 ae).2.2.1/\(Q1 ae).2.2.2.1=(Q1 ae).2.2.2.1/\True/\((rb (Q1 ae)).1=(rb (Q1 ae)).1/\(rb (Q1 ae)).2.1=(rb (Q1 ae)).2.1/\(rb (Q1 ae)).2.2.1=(rb (Q1 ae)).2.2.1/\(rb (Q1 ae)).2.2.2.1=(rb (Q1 ae)).2.2.2.1/\(rg (Q1 ae)).1=(rg (Q1 ae)).1/\nS)/\True/\True/\(rg (Q1 ae)).2.1=(rg (Q1 ae)).2.1/\D7/\((rg (Q1 ae)).2.2.1=(rg (Q1 ae)).2.2.1/\(rg (Q1 ae)).2.2.2.1=(rg (Q1 ae)).2.2.2.1/\(rb (rg (Q1 ae))).1=(rb (rg (Q1 ae))).1/\(rb (rg (Q1 ae))).2.1=(rb (rg (Q1 ae))).2.1/\nS)/\((rb (rg (Q1 ae))).2.2.1=(rb (rg (Q1 ae))).2.2.1/\(rb (rg (Q1 ae))).2.2.2.1=(rb (rg (Q1 ae))).2.2.2.1/\(Q1 (Q1 ae)).1=(Q1 (Q1 ae)).1/\(Q1 (Q1 ae)).2.1=(Q1 (Q1 ae)).2.1/\(Q1 (Q1 ae)).2.2.1=(Q1 (Q1 ae)).2.2.1/\nS)/\True/\True/\True/\True/\True/\True/\True/\True/\True/\True/\True/\True/\True/\True/\True/\True/\True/\True/\True/\True/\True/\True/\True/\True/\True/\True/\True/\True/\True/\True/\True/\True/\True/\True/\True/\True/\True/\True/\True/\True/\True/\True/\nS))/\((rb ae).2.2.1=(rb ae).2.2.1/\(rb ae).2.2.2.1=(rb ae).2.2.2.1/\(rg ae).1=(rg ae).1/\(rg ae).2.1=(rg ae).2.1/\nS)/\((rg ae).2.2.1=(rg ae).2.2.1)/\True/\((rg ae).2.2.2.1=(rg ae).2.2.2.1/\(rb (rg ae)).1=(rb (rg ae)).1/\(rb (rg ae)).2.1=(rb (rg ae)).2.1/\(rb (rg ae)).2.2.1=(rb (rg ae)).2.2.1/\(rb (rg ae)).2.2.2.1=(rb (rg ae)).2.2.2.1/\nS)/\((Q1 ae).1=(Q1 ae).1/\(List.isEmpty (Q1 ae).1)=(List.isEmpty (Q1 ae).1))/\True))/\iI d12))) /\
     ((decide (d10.2<(rb ae).2.1))=false ->
      (Q1 (Q1 ae)).2.2.2=w7/\(I64 ((Q1 ae).2.2.1+(1:Int)))/\(∃ d13:(List Int)×(List (Int×Bool))×Int,((True/\True/\True/\True/\True/\(Q1 ae).2.1=(lI ([]:List Dmg))/\((Q1 ae).2.2.1+(1:Int))=d13.2.2/\True)/\(((rb ae).2.2.1=hk/\(rb ae).2.2.2.1=lw/\(rg ae).1=hd/\(rg ae).2.1=rows/\nS)/\(d10.1=d13.1/\false=false)/\((rg ae).2.2.1=d13.2.1)/\True/\((Q1 ae).1=([]:List Dmg)/\(List.isEmpty (Q1 ae).1)=Ua)/\True))/\q4 d13))) d100) /\
   ((gD ([]:List Dmg) d4.2.2 zD).1=(3:Int) ->
    ∀ lA:List Value,∃ (af:(List Int)×Int×Int×Int×Int×Bool×Int×Int×(List Int)×Int×(List Int)×(List (Int×Bool))×Int×Int×Int×Int×Bool×(List BV)×Int×Int×Bool×Int×Int×Int×Int×Bool×Int×Int×(List Int)×Int×(List Int)×Int×Int×Int×Int×Bool×(List Value)) (d170:Int×Int),((True/\True/\(0:Int)=d170.1/\hd=(rb af).2.2.1/\(0:Int)=d170.2/\True)/\((d4.1=af.1/\false=false)/\((gD ([]:List Dmg) d4.2.2 zD).1=af.2.1/\(gD ([]:List Dmg) d4.2.2 zD).2.1=af.2.2.1/\(gD ([]:List Dmg) d4.2.2 zD).2.2.1=af.2.2.2.1/\(gD ([]:List Dmg) d4.2.2 zD).2.2.2.1=(rb af).1/\(gD ([]:List Dmg) d4.2.2 zD).2.2.2.2=(rb af).2.1/\nS)/\((rb (Q1 (Q1 af)))=lA/\(True/\True/\True/\True/\True/\True/\True/\True/\True/\True/\True/\True/\True/\True/\True/\True/\True/\True/\True/\True/\True/\True/\True/\True/\True/\True/\(lI ([]:List Dmg))=(Q1 af).2.2.1/\d4.2.2=(Q1 af).2.2.2.1/\(decide (d4.2.2<(lI ([]:List Dmg))))=(rb (Q1 af)).1/\True/\((gD ([]:List Dmg) d4.2.2 zD).1=(rb (Q1 af)).2.1/\(gD ([]:List Dmg) d4.2.2 zD).2.1=(rb (Q1 af)).2.2.1/\(gD ([]:List Dmg) d4.2.2 zD).2.2.1=(rb (Q1 af)).2.2.2.1/\(gD ([]:List Dmg) d4.2.2 zD).2.2.2.1=(rg (Q1 af)).1/\(gD ([]:List Dmg) d4.2.2 zD).2.2.2.2=(rg (Q1 af)).2.1/\nS)/\True/\True/\(3:Int)=(rg (Q1 af)).2.2.1/\D7/\(hk=(rg (Q1 af)).2.2.2.1/\lw=(rb (rg (Q1 af))).1/\hd=(rb (rg (Q1 af))).2.1/\rows=(rb (rg (Q1 af))).2.2.1/\nS)/\((gD ([]:List Dmg) d4.2.2 zD).1=(rb (rg (Q1 af))).2.2.2.1/\(gD ([]:List Dmg) d4.2.2 zD).2.1=(Q1 (Q1 af)).1/\(gD ([]:List Dmg) d4.2.2 zD).2.2.1=(Q1 (Q1 af)).2.1/\(gD ([]:List Dmg) d4.2.2 zD).2.2.2.1=(Q1 (Q1 af)).2.2.1/\(gD ([]:List Dmg) d4.2.2 zD).2.2.2.2=(Q1 (Q1 af)).2.2.2.1/\nS)/\True/\True/\True/\True/\True/\True/\True/\True/\True/\True/\True/\True/\True/\True/\True/\True/\True/\True/\True/\True/\True/\True/\True/\True/\True/\True/\True/\True/\True/\True/\True/\True/\True/\True/\True/\True/\True/\True/\True/\True/\True/\True/\nS))/\(hk=(rb af).2.2.2.1/\lw=(rg af).1/\hd=(rg af).2.1/\rows=(rg af).2.2.1/\nS)/\(d4.2.1=(rg af).2.2.2.1)/\True/\((gD ([]:List Dmg) d4.2.2 zD).1=(rb (rg af)).1/\(gD ([]:List Dmg) d4.2.2 zD).2.1=(rb (rg af)).2.1/\(gD ([]:List Dmg) d4.2.2 zD).2.2.1=(rb (rg af)).2.2.1/\(gD ([]:List Dmg) d4.2.2 zD).2.2.2.1=(rb (rg af)).2.2.2.1/\(gD ([]:List Dmg) d4.2.2 zD).2.2.2.2=(Q1 af).1/\nS)/\(([]:List Dmg)=(Q1 af).2.1/\Ua=(List.isEmpty (Q1 af).2.1))/\True)) /\
    LoopP (λ(d17:Int×Int) (qN:(Int×Int)->Prop) =>
     ((decide (d17.2<(rb af).2.2.1))=true ->
      (0<=(1:Int))/\(I64 (YN .i64 d17.1 (1:Int)))/\(0<=af.2.2.1)/\(af.2.2.1<(List.length af.1))/\(0<=d17.2)/\(I64 (d17.2+(1:Int)))/\(∃ d18:Int×Int,((True/\True/\(QB .or .i64 (YN .i64 d17.1 (1:Int)) (QB .and .i64 (UH .i64 (gD af.1 af.2.2.1 0) d17.2) (1:Int)))=d18.1/\(rb af).2.2.1=(rb af).2.2.1/\(d17.2+(1:Int))=d18.2/\True)/\((af.1=af.1/\false=false)/\(af.2.1=af.2.1/\af.2.2.1=af.2.2.1/\af.2.2.2.1=af.2.2.2.1/\(rb af).1=(rb af).1/\(rb af).2.1=(rb af).2.1/\nS)/\((rb (Q1 (Q1 af)))=(rb (Q1 (Q1 af)))/\(True/\True/\True/\True/\True/\True/\True/\True/\True/\True/\True/\True/\True/\True/\True/\True/\True/\True/\True/\True/\True/\True/\True/\True/\True/\True/\(Q1 af).2.2.1=(Q1 af).2.2.1/\(Q1 af).2.2.2.1=(Q1 af).2.2.2.1/\(rb (Q1 af)).1=(rb (Q1 af)).1/\True/\((rb (Q1 af)).2.1=(rb (Q1 af)).2.1/\(rb (Q1 af)).2.2.1=(rb (Q1 af)).2.2.1/\(rb (Q1 af)).2.2.2.1=(rb (Q1 af)).2.2.2.1/\(rg (Q1 af)).1=(rg (Q1 af)).1/\(rg (Q1 af)).2.1=(rg (Q1 af)).2.1/\nS)/\True/\True/\(rg (Q1 af)).2.2.1=(rg (Q1 af)).2.2.1/\D7/\((rg (Q1 af)).2.2.2.1=(rg (Q1 af)).2.2.2.1/\(rb (rg (Q1 af))).1=(rb (rg (Q1 af))).1/\(rb (rg (Q1 af))).2.1=(rb (rg (Q1 af))).2.1/\(rb (rg (Q1 af))).2.2.1=(rb (rg (Q1 af))).2.2.1/\nS)/\((rb (rg (Q1 af))).2.2.2.1=(rb (rg (Q1 af))).2.2.2.1/\(Q1 (Q1 af)).1=(Q1 (Q1 af)).1/\(Q1 (Q1 af)).2.1=(Q1 (Q1 af)).2.1/\(Q1 (Q1 af)).2.2.1=(Q1 (Q1 af)).2.2.1/\(Q1 (Q1 af)).2.2.2.1=(Q1 (Q1 af)).2.2.2.1/\nS)/\True/\True/\True/\True/\True/\True/\True/\True/\True/\True/\True/\True/\True/\True/\True/\True/\True/\True/\True/\True/\True/\True/\True/\True/\True/\True/\True/\True/\True/\True/\True/\True/\True/\True/\True/\True/\True/\True/\True/\True/\True/\True/\nS))/\((rb af).2.2.2.1=(rb af).2.2.2.1/\(rg af).1=(rg af).1/\(rg af).2.1=(rg af).2.1/\(rg af).2.2.1=(rg af).2.2.1/\nS)/\((rg af).2.2.2.1=(rg af).2.2.2.1)/\True/\((rb (rg af)).1=(rb (rg af)).1/\(rb (rg af)).2.1=(rb (rg af)).2.1/\(rb (rg af)).2.2.1=(rb (rg af)).2.2.1/\(rb (rg af)).2.2.2.1=(rb (rg af)).2.2.2.1/\(Q1 af).1=(Q1 af).1/\nS)/\((Q1 af).2.1=(Q1 af).2.1/\(List.isEmpty (Q1 af).2.1)=(List.isEmpty (Q1 af).2.1))/\True))/\qN d18)) /\
     ((decide (d17.2<(rb af).2.2.1))=false ->
      (0<=af.2.2.1)/\(af.2.2.1<(List.length af.1))/\(rb (Q1 (Q1 af)))=lA/\(I64 ((Q1 af).2.2.2.1+(1:Int)))/\(∃ d19:(List Int)×(List (Int×Bool))×Int,((True/\True/\True/\True/\True/\(Q1 af).2.2.1=(lI ([]:List Dmg))/\((Q1 af).2.2.2.1+(1:Int))=d19.2.2/\True)/\(((rb af).2.2.2.1=hk/\(rg af).1=lw/\(rg af).2.1=hd/\(rg af).2.2.1=rows/\nS)/\((sT af.1 af.2.2.1 d17.1)=d19.1/\false=false)/\((rg af).2.2.2.1=d19.2.1)/\True/\((Q1 af).2.1=([]:List Dmg)/\(List.isEmpty (Q1 af).2.1)=Ua)/\True))/\q4 d19))) d170) /\
   ((gD ([]:List Dmg) d4.2.2 zD).1=(4:Int) ->
    ∀ ma:List Value,(I64 ((gD ([]:List Dmg) d4.2.2 zD).2.1+(1:Int)))/\((lI d4.1)≠0)/\(0<=(gD ([]:List Dmg) d4.2.2 zD).2.1)/\((gD ([]:List Dmg) d4.2.2 zD).2.1<d4.1.length)/\(0<=(Int.tmod ((gD ([]:List Dmg) d4.2.2 zD).2.1+(1:Int)) (lI d4.1)))/\((Int.tmod ((gD ([]:List Dmg) d4.2.2 zD).2.1+(1:Int)) (lI d4.1))<d4.1.length)/\(0<=(gD ([]:List Dmg) d4.2.2 zD).2.1)/\((gD ([]:List Dmg) d4.2.2 zD).2.1<d4.1.length)/\(0<=(Int.tmod ((gD ([]:List Dmg) d4.2.2 zD).2.1+(1:Int)) (lI d4.1)))/\((Int.tmod ((gD ([]:List Dmg) d4.2.2 zD).2.1+(1:Int)) (lI d4.1))<(List.length (List.set d4.1 (Int.toNat (gD ([]:List Dmg) d4.2.2 zD).2.1) (gD d4.1 (Int.tmod ((gD ([]:List Dmg) d4.2.2 zD).2.1+(1:Int)) (lI d4.1)) 0))))/\ma=ma/\(I64 (d4.2.2+(1:Int)))/\(∃ d21:(List Int)×(List (Int×Bool))×Int,((True/\True/\True/\True/\True/\(lI ([]:List Dmg))=(lI ([]:List Dmg))/\(d4.2.2+(1:Int))=d21.2.2/\True)/\((hk=hk/\lw=lw/\hd=hd/\rows=rows/\nS)/\((sT (List.set d4.1 (Int.toNat (gD ([]:List Dmg) d4.2.2 zD).2.1) (gD d4.1 (Int.tmod ((gD ([]:List Dmg) d4.2.2 zD).2.1+(1:Int)) (lI d4.1)) 0)) (Int.tmod ((gD ([]:List Dmg) d4.2.2 zD).2.1+(1:Int)) (lI d4.1)) (List.getD d4.1 (Int.toNat (gD ([]:List Dmg) d4.2.2 zD).2.1) 0))=d21.1/\false=false)/\(d4.2.1=d21.2.1)/\True/\Rl/\True))/\q4 d21)) /\
   ((gD ([]:List Dmg) d4.2.2 zD).1=(5:Int) ->
    ∀ mb:List Value,mb=mb/\(I64 (d4.2.2+(1:Int)))/\(∃ d23:(List Int)×(List (Int×Bool))×Int,((True/\True/\True/\True/\True/\(lI ([]:List Dmg))=(lI ([]:List Dmg))/\(d4.2.2+(1:Int))=d23.2.2/\True)/\((hk=hk/\lw=lw/\hd=hd/\rows=rows/\nS)/\(d4.1=d23.1/\false=false)/\((Z2x (.i .i64) d4.2.1 (gD ([]:List Dmg) d4.2.2 zD).2.2.2.1 true)=d23.2.1)/\True/\Rl/\True))/\q4 d23)) /\
   True) /\
  ((decide (d4.2.2<(lI ([]:List Dmg))))=false ->
   (lw.length<=110/\d4.1.length<=110)/\∃ (eL:(List (Int×Bool))×Int) (eM:(List (List UInt8))×Int),((True/\True/\True/\(lI (QY hk lw hd d4.1))=eL.2/\(0:Int)=eM.2/\True)/\(((QY hk lw hd d4.1)=eM.1/\(QY hk lw hd d4.1).isEmpty=(List.isEmpty eM.1))/\(d4.2.1=eL.1)/\True)) /\
   LoopP (λ(d26:(List (List UInt8))×Int) (qO:((List (List UInt8))×Int)->Prop) =>
    ((decide (d26.2<eL.2))=true ->
     (0<=d26.2)/\(d26.2<d26.1.length)/\((List.length (gD d26.1 d26.2 []))<=4611686018427387904)/\∃ (aS:(List (List UInt8))×(List (Int×Bool))×Int×Int×Int×(List (Int×Bool))) (fU:(List Int)×(List Nat)),((True/\True/\d26.2=aS.2.2.1/\True/\True/\eL.2=aS.2.2.2.1/\d26.2=(rb aS).1/\True/\True)/\((d26.1=aS.1/\d26.1.isEmpty=(List.isEmpty aS.1))/\(eL.1=aS.2.1)/\((List.map (λ(b:UInt8)=>(UInt8.toNat b:Int)) (gD d26.1 d26.2 []))=fU.1/\false=false)/\(eL.1=(rb aS).2/\([]:List Nat)=fU.2)/\True)) /\
     LoopP (λ(d29:(List Int)×(List Nat)) (qP:((List Int)×(List Nat))->Prop) =>
      ((∀ r:Nat,r<(List.length (rb aS).2)->r∈d29.2) ->
       (0<=aS.2.2.1)/\(aS.2.2.1<(List.length aS.1))/\(I64 ((rb aS).1+(1:Int)))/\(∃ d31:(List (List UInt8))×Int,((True/\True/\True/\aS.2.2.2.1=eL.2/\((rb aS).1+(1:Int))=d31.2/\True)/\(((sT aS.1 aS.2.2.1 (VM d29.1))=d31.1/\(List.isEmpty aS.1)=d31.1.isEmpty)/\(aS.2.1=eL.1)/\True))/\qO d31)) /\
      (∀ fW:Nat,fW<(List.length (rb aS).2)->fW∉d29.2 ->
       ((d29.2++[fW])≠[])/\(0<=(List.getD (rb aS).2 (List.getLastD (d29.2++[fW]) 0) (0,false)).1)/\((List.getD (rb aS).2 (List.getLastD (d29.2++[fW]) 0) (0,false)).1<d29.1.length)/\(∃ d32:(List Int)×(List Nat),((True/\True/\aS.2.2.1=aS.2.2.1/\True/\True/\aS.2.2.2.1=aS.2.2.2.1/\(rb aS).1=(rb aS).1/\True/\True)/\((aS.1=aS.1/\(List.isEmpty aS.1)=(List.isEmpty aS.1))/\(aS.2.1=aS.2.1)/\((List.set d29.1 (Int.toNat (List.getD (rb aS).2 (List.getLastD (d29.2++[fW]) 0) (0,false)).1) (46:Int))=d32.1/\false=false)/\((rb aS).2=(rb aS).2/\(d29.2++[fW])=d32.2)/\True))/\qP d32))) fU) /\
    ((decide (d26.2<eL.2))=false ->
     (True/\((d26.1=(XR lw hd rows [])/\d26.1.isEmpty=false)/\True)))) eM)) d40
def Xc:Cx:=⟨[(1000001,(.i .i64))],[],3,[],0,[],[],[],[],false,[],[],[],[]⟩
def Xf:List (Nat×LoopAnn):=[]
def JM:Cx:=⟨[],[],18,[],0,[],[],[],[],false,[],[],[],[]⟩
def JS:List (Nat×LoopAnn):=[]
def JX:Cx:=⟨[],[],36,[],0,[],[],[],[],false,[],[],[],[]⟩
def JL:List (Nat×LoopAnn):=[(0,⟨Int×Int×Int×Int×Bool×Int×Int×(List Int)×Int×(List Int)×(List (Int×Bool))×Int×Int×Int×Int×Bool×(List (Int×Int×Int×Int×Bool))×Int×Int×Bool×Int×Int×Int×Int×Bool×Int×Int×(List Int)×Int×(List Int)×Int×Int×Int×Int×Bool×(List Value),(List Int)×Int,[2,5,10,11],λe x=>[.lst 18,.box 4000005 0,.val (.i .i64) (rb e).2.1,.val (.i .i64) x.2],λe x=>[(18,.slot 2,.lst 3 (.i .i64) x.1 false),(4000005,.slot 5,.cells [.val (.i .i64) e.1,.val (.i .i64) e.2.1,.val (.i .i64) e.2.2.1,.val (.i .i64) e.2.2.2.1,.val .bo (rb e).1] (some 36)),(3999999,.key 3999999,.stk [.any,.any,.box 2 0,.any,.any,.lst 18,.map 19,.map 2500001,.any,.box 9 0,.any,.any,.any,.any,.any,.any,.any,.any,.any,.any,.any,.any,.any,.any,.any,.lst 21,.val (.i .i64) (Q1 e).2.1,.val (.i .i64) (Q1 e).2.2.1,.val .bo (Q1 e).2.2.2.1,.any,.agg [.val (.i .i64) (rb (Q1 e)).1,.val (.i .i64) (rb (Q1 e)).2.1,.val (.i .i64) (rb (Q1 e)).2.2.1,.val (.i .i64) (rb (Q1 e)).2.2.2.1,.val .bo (rg (Q1 e)).1],.map 2500001,.box 9 0,.val (.i .i64) (rg (Q1 e)).2.1,.fn 118 [] [],.agg [.val (.i .i64) (rg (Q1 e)).2.2.1,.val (.list (.i .i64)) (rg (Q1 e)).2.2.2.1,.val (.i .i64) (rb (rg (Q1 e))).1,.val (.list (.i .i64)) (rb (rg (Q1 e))).2.1],.agg [.val (.i .i64) (rb (rg (Q1 e))).2.2.1,.val (.i .i64) (rb (rg (Q1 e))).2.2.2.1,.val (.i .i64) (Q1 (Q1 e)).1,.val (.i .i64) (Q1 (Q1 e)).2.1,.val .bo (Q1 (Q1 e)).2.2.1],.lst 18,.map 19,.any,.any,.any,.any,.any,.any,.any,.any,.any,.any,.any,.any,.any,.any,.any,.any,.any,.any,.any,.any,.any,.any,.any,.any,.any,.any,.any,.any,.any,.any,.any,.any,.any,.any,.any,.any,.any,.any,.any,.any] (Q1 (Q1 e)).2.2.2),(2,.key 2,.cells [.val (.i .i64) (rb e).2.2.1,.val (.list (.i .i64)) (rb e).2.2.2.1,.val (.i .i64) (rg e).1,.val (.list (.i .i64)) (rg e).2.1] (some 90)),(19,.key 19,.map (.i .i64) .bo (rg e).2.2.1),(2500001,.key 2500001,.fm .i64 [(1,117),(2,118),(3,119),(4,120),(5,121)]),(9,.key 9,.cells [.val (.i .i64) (rg e).2.2.2.1,.val (.i .i64) (rb (rg e)).1,.val (.i .i64) (rb (rg e)).2.1,.val (.i .i64) (rb (rg e)).2.2.1,.val .bo (rb (rg e)).2.2.2.1] (some 36)),(21,.key 21,.lst 36 (.pair (.i .i64) (.pair (.i .i64) (.pair (.i .i64) (.pair (.i .i64) .bo)))) (Q1 e).1 (List.isEmpty (Q1 e).1))]⟩)]
def JR:Cx:=⟨[],[],34,[],0,[],[],[],[],false,[],[],[],[]⟩
def JT:List (Nat×LoopAnn):=[(0,⟨(List Int)×Int×Int×Int×Int×Bool×Int×Int×(List Int)×Int×(List Int)×(List (Int×Bool))×Int×Int×Int×Int×Bool×(List (Int×Int×Int×Int×Bool))×Int×Int×Bool×Int×Int×Int×Int×Bool×Int×Int×(List Int)×Int×(List Int)×Int×Int×Int×Int×Bool×(List Value),Int×Int,[2,5,8,13,14],λe x=>[.lst 18,.box 4000005 0,.val (.i .i64) x.1,.val (.i .i64) (rb e).2.2.1,.val (.i .i64) x.2],λe x=>[(18,.slot 2,.lst 3 (.i .i64) e.1 false),(4000005,.slot 5,.cells [.val (.i .i64) e.2.1,.val (.i .i64) e.2.2.1,.val (.i .i64) e.2.2.2.1,.val (.i .i64) (rb e).1,.val .bo (rb e).2.1] (some 36)),(3999999,.key 3999999,.stk [.any,.any,.box 2 0,.any,.any,.lst 18,.map 19,.map 2500001,.any,.box 9 0,.any,.any,.any,.any,.any,.any,.any,.any,.any,.any,.any,.any,.any,.any,.any,.lst 21,.val (.i .i64) (Q1 e).2.2.1,.val (.i .i64) (Q1 e).2.2.2.1,.val .bo (rb (Q1 e)).1,.any,.agg [.val (.i .i64) (rb (Q1 e)).2.1,.val (.i .i64) (rb (Q1 e)).2.2.1,.val (.i .i64) (rb (Q1 e)).2.2.2.1,.val (.i .i64) (rg (Q1 e)).1,.val .bo (rg (Q1 e)).2.1],.map 2500001,.box 9 0,.val (.i .i64) (rg (Q1 e)).2.2.1,.fn 119 [] [],.agg [.val (.i .i64) (rg (Q1 e)).2.2.2.1,.val (.list (.i .i64)) (rb (rg (Q1 e))).1,.val (.i .i64) (rb (rg (Q1 e))).2.1,.val (.list (.i .i64)) (rb (rg (Q1 e))).2.2.1],.agg [.val (.i .i64) (rb (rg (Q1 e))).2.2.2.1,.val (.i .i64) (Q1 (Q1 e)).1,.val (.i .i64) (Q1 (Q1 e)).2.1,.val (.i .i64) (Q1 (Q1 e)).2.2.1,.val .bo (Q1 (Q1 e)).2.2.2.1],.lst 18,.map 19,.any,.any,.any,.any,.any,.any,.any,.any,.any,.any,.any,.any,.any,.any,.any,.any,.any,.any,.any,.any,.any,.any,.any,.any,.any,.any,.any,.any,.any,.any,.any,.any,.any,.any,.any,.any,.any,.any,.any,.any] (rb (Q1 (Q1 e)))),(2,.key 2,.cells [.val (.i .i64) (rb e).2.2.2.1,.val (.list (.i .i64)) (rg e).1,.val (.i .i64) (rg e).2.1,.val (.list (.i .i64)) (rg e).2.2.1] (some 90)),(19,.key 19,.map (.i .i64) .bo (rg e).2.2.2.1),(2500001,.key 2500001,.fm .i64 [(1,117),(2,118),(3,119),(4,120),(5,121)]),(9,.key 9,.cells [.val (.i .i64) (rb (rg e)).1,.val (.i .i64) (rb (rg e)).2.1,.val (.i .i64) (rb (rg e)).2.2.1,.val (.i .i64) (rb (rg e)).2.2.2.1,.val .bo (Q1 e).1] (some 36)),(21,.key 21,.lst 36 (.pair (.i .i64) (.pair (.i .i64) (.pair (.i .i64) (.pair (.i .i64) .bo)))) (Q1 e).2.1 (List.isEmpty (Q1 e).2.1))]⟩)]
def JI:Cx:=⟨[],[],35,[],0,[],[],[],[],false,[],[],[],[]⟩
def JV:List (Nat×LoopAnn):=[]
def X0:Cx:=⟨[],[],11,[],0,[],[],[],[],false,[],[],[],[]⟩
def JW:List (Nat×LoopAnn):=[]
def VU:Cx:=⟨[(1000019,(.pair (.i .i64) .bo))],[(76,ZL),(77,CSp.or Qn Qg),(79,Jm),(10,U8)],79,[4002117,4054019,3000066],0,[(78,Q9),(81,FJ Xc (λ_=>Xf) c81 [.tmp 0] 3),(117,FJ JM (λ_=>JS) Z7r [] 18),(118,FJ JX (λ_=>JL) Z7u [] 36),(119,FJ JR (λ_=>JT) Z7y [] 34),(120,FJ JI (λ_=>JV) Z7o [] 35),(121,FJ X0 (λ_=>JW) Z7l [] 11)],[],[],[],false,[],[],[33,54,66],[]⟩
def BL (hk:Int) (lw:List Int) (hd:Int) (rows:List Int):List (Nat×LoopAnn):=[(0,⟨Unit,(List Int)×(List (Int×Bool))×Int,[2,5,6,7,25,26,27],λe x=>[.box 2 0,.lst 18,.map 19,.map 2500001,.lst 21,.val (.i .i64) (((List.length ([]:List Dmg)):Nat):Int),.val (.i .i64) x.2.2],λe x=>[(2,.slot 2,.cells [.val (.i .i64) hk,.val (.list (.i .i64)) lw,.val (.i .i64) hd,.val (.list (.i .i64)) rows] (some 90)),(18,.slot 5,.lst 3 (.i .i64) x.1 false),(19,.slot 6,.map (.i .i64) .bo x.2.1),(2500001,.slot 7,.fm .i64 [(1,117),(2,118),(3,119),(4,120),(5,121)]),(21,.slot 25,.lst 36 (.pair (.i .i64) (.pair (.i .i64) (.pair (.i .i64) (.pair (.i .i64) .bo)))) ([]:List Dmg) (List.isEmpty ([]:List Dmg)))]⟩),
 (2,⟨(List (Int×Bool))×Int,(List (List UInt8))×Int,[4,6,54,55,56],λe x=>[.lst 51,.map 19,.lst 51,.val (.i .i64) e.2,.val (.i .i64) x.2],λe x=>[(51,.slot 4,.lst 9 .st x.1 (List.isEmpty x.1)),(19,.slot 6,.rmap (.i .i64) .bo e.1)]⟩),
 (4,⟨(List (List UInt8))×(List (Int×Bool))×Int×Int×Int×(List (Int×Bool)),(List Int)×(List Nat),[4,6,10,12,54,55,56,64],λe x=>[.lst 51,.map 19,.val (.i .i64) e.2.2.1,.lst 62,.lst 51,.val (.i .i64) e.2.2.2.1,.val (.i .i64) (rb e).1,.box 64 0],λe x=>[(51,.slot 4,.lst 9 .st e.1 (List.isEmpty e.1)),(19,.slot 6,.rmap (.i .i64) .bo e.2.1),(62,.slot 12,.lst 5 (.i .u8) x.1 false),(64,.slot 64,.iter (.i .i64) .bo (rb e).2 x.2)]⟩)]
theorem BJ (d:(Int×List Int×Int×List Int)×Unit):gwp (VU) (BL d.1.1 d.1.2.1 d.1.2.2.1 d.1.2.2.2) c34 0 (Y4 [.tmp 4] (V4 d) (V3 d)) (Qq 79 (AL.can VP d))=XW d.1.1 d.1.2.1 d.1.2.2.1 d.1.2.2.2:=by kernel_rfl
abbrev Bq:Prop:=OkC Tryz.prog 34 Ji
theorem Bk (h:∀ (hk:Int) (lw:List Int) (hd:Int) (rows:List Int),(Q6 hk lw hd rows=0/\lw.length<=110/\rows.length<=110)->XW hk lw hd rows):OkC Tryz.prog 34 Ji :=
 Qu Z28 mixed (C:=VU) (V:=λ(d:(Int×List Int×Int×List Int)×Unit)=>XW d.1.1 d.1.2.1 d.1.2.2.1 d.1.2.2.2) ⟨(.cons XX (.cons (OkC.or Zo Z6) (.cons WD (.cons MZ .nil)))),(XsOk.cons QI (XsOk.cons (WN Z1z mixed (C:=Xc) ⟨.nil,XsOk.nil,ItsOk.nil,YlOk.nil,IysOk.nil,XfOk.nil⟩ (λ_=>Xf)) (XsOk.cons (WN Q6h mixed (C:=JM) ⟨.nil,XsOk.nil,ItsOk.nil,YlOk.nil,IysOk.nil,XfOk.nil⟩ (λ_=>JS)) (XsOk.cons (WN Q5p mixed (C:=JX) ⟨.nil,XsOk.nil,ItsOk.nil,YlOk.nil,IysOk.nil,XfOk.nil⟩ (λ_=>JL)) (XsOk.cons (WN Q7a mixed (C:=JR) ⟨.nil,XsOk.nil,ItsOk.nil,YlOk.nil,IysOk.nil,XfOk.nil⟩ (λ_=>JT)) (XsOk.cons (WN Q6e mixed (C:=JI) ⟨.nil,XsOk.nil,ItsOk.nil,YlOk.nil,IysOk.nil,XfOk.nil⟩ (λ_=>JV)) (XsOk.cons (WN Q7d mixed (C:=X0) ⟨.nil,XsOk.nil,ItsOk.nil,YlOk.nil,IysOk.nil,XfOk.nil⟩ (λ_=>JW)) XsOk.nil))))))),ItsOk.nil,YlOk.nil,IysOk.nil,XfOk.nil⟩ (BJ) λd hp=>h d.1.1 d.1.2.1 d.1.2.2.1 d.1.2.2.2 hp
def Yx:AL ((Int×List Int×Int×List Int)×List (Int×Int×Int×Int×Bool)):=(.cons (.agg (.cons (.k (.i .i64)) (.cons (.k (.list (.i .i64))) (.cons (.k (.i .i64)) (.one (.k (.list (.i .i64)))))))) (.one (.k (.list (.pair (.i .i64) (.pair (.i .i64) (.pair (.i .i64) (.pair (.i .i64) .bo))))))))
def UN (d:(Int×List Int×Int×List Int)×List (Int×Int×Int×Int×Bool)):Prop:=Q6 d.1.1 d.1.2.1 d.1.2.2.1 d.1.2.2.2=0/\d.1.2.1.length<=110/\d.1.2.2.2.length<=110/\d.2.length=1/\∀ z∈d.2,BK d.1.2.2.1 d.1.2.2.2 d.1.2.1 z=true
def Ye (d:(Int×List Int×Int×List Int)×List (Int×Int×Int×Int×Bool)):SV:=.lst 0
def Ya (d:(Int×List Int×Int×List Int)×List (Int×Int×Int×Int×Bool)):List OB:=[.lst 9 .st (XR d.1.2.1 d.1.2.2.1 d.1.2.2.2 d.2) false]
def Zf:CSp:=Wt Yx UN Ye Ya
abbrev GV :=((nS)/\(nS))
abbrev HH :=(Int×Int×Int×Int×Bool)
def Jh (hk:Int) (lw:List Int) (hd:Int) (rows:List Int) (ds:List (Int×Int×Int×Int×Bool)):Prop :=
 (rows≠[]/\rows.length<=110)/\(ds≠[]/\ds.length<=110)/\(ds.length<=1/\(∀ x∈ds,∀ y∈ds,(λ(x1:HH×HH)=>True) (x,y)))/\∀ w1:List Value,w1=w1/\∃ (e4:Unit) (d40:(List Int)×(List (Int×Bool))×Int),((True/\True/\True/\True/\True/\(lI ds)=(lI ds)/\(0:Int)=d40.2.2/\True)/\((hk=hk/\lw=lw/\hd=hd/\rows=rows/\nS)/\(rows=d40.1/\false=false)/\(([]:List (Int×Bool))=d40.2.1)/\True/\(ds=ds/\false=false)/\True)) /\
 LoopP (λ(d4:(List Int)×(List (Int×Bool))×Int) (q4:((List Int)×(List (Int×Bool))×Int)->Prop) =>
  ((decide (d4.2.2<(lI ds)))=true ->
   (0<=d4.2.2)/\(d4.2.2<ds.length)/\(1<=(gD ds d4.2.2 zD).1)/\((gD ds d4.2.2 zD).1<=((5:Nat):Int)) /\
   ((gD ds d4.2.2 zD).1=(1:Int) ->
    ∀ w5:List Value,(0<=(gD ds d4.2.2 zD).2.1)/\((gD ds d4.2.2 zD).2.1<d4.1.length)/\(0<=(gD ds d4.2.2 zD).2.2.1)/\(I64 (YN .i64 (1:Int) (gD ds d4.2.2 zD).2.2.1))/\(0<=(gD ds d4.2.2 zD).2.1)/\((gD ds d4.2.2 zD).2.1<d4.1.length)/\w5=w5/\(I64 (d4.2.2+(1:Int)))/\(∃ d6:(List Int)×(List (Int×Bool))×Int,((True/\True/\True/\True/\True/\(lI ds)=(lI ds)/\(d4.2.2+(1:Int))=d6.2.2/\True)/\((hk=hk/\lw=lw/\hd=hd/\rows=rows/\nS)/\((List.set d4.1 (Int.toNat (gD ds d4.2.2 zD).2.1) (QB .xor .i64 (List.getD d4.1 (Int.toNat (gD ds d4.2.2 zD).2.1) 0) (YN .i64 (1:Int) (gD ds d4.2.2 zD).2.2.1)))=d6.1/\false=false)/\(d4.2.1=d6.2.1)/\True/\(ds=ds/\false=false)/\True))/\q4 d6)) /\
   ((gD ds d4.2.2 zD).1=(2:Int) ->
    ∀ w7:List Value,∃ (ae:Int×Int×Int×Int×Bool×Int×Int×(List Int)×Int×(List Int)×(List (Int×Bool))×Int×Int×Int×Int×Bool×(List HH)×Int×Int×Bool×Int×Int×Int×Int×Bool×Int×Int×(List Int)×Int×(List Int)×Int×Int×Int×Int×Bool×(List Value)) (d100:(List Int)×Int),((True/\True/\(lI d4.1)=(rb ae).2.1/\(0:Int)=d100.2/\True)/\((d4.1=d100.1/\false=false)/\((gD ds d4.2.2 zD).1=ae.1/\(gD ds d4.2.2 zD).2.1=ae.2.1/\(gD ds d4.2.2 zD).2.2.1=ae.2.2.1/\(gD ds d4.2.2 zD).2.2.2.1=ae.2.2.2.1/\(gD ds d4.2.2 zD).2.2.2.2=(rb ae).1/\nS)/\((Q1 (Q1 ae)).2.2.2=w7/\(True/\True/\True/\True/\True/\True/\True/\True/\True/\True/\True/\True/\True/\True/\True/\True/\True/\True/\True/\True/\True/\True/\True/\True/\True/\True/\(lI ds)=(Q1 ae).2.1/\d4.2.2=(Q1 ae).2.2.1/\(decide (d4.2.2<(lI ds)))=(Q1 ae).2.2.2.1/\True/\((gD ds d4.2.2 zD).1=(rb (Q1 ae)).1/\(gD ds d4.2.2 zD).2.1=(rb (Q1 ae)).2.1/\(gD ds d4.2.2 zD).2.2.1=(rb (Q1 ae)).2.2.1/\(gD ds d4.2.2 zD).2.2.2.1=(rb (Q1 ae)).2.2.2.1/\(gD ds d4.2.2 zD).2.2.2.2=(rg (Q1 ae)).1/\nS)/\True/\True/\(2:Int)=(rg (Q1 ae)).2.1/\GV/\(hk=(rg (Q1 ae)).2.2.1/\lw=(rg (Q1 ae)).2.2.2.1/\hd=(rb (rg (Q1 ae))).1/\rows=(rb (rg (Q1 ae))).2.1/\nS)/\((gD ds d4.2.2 zD).1=(rb (rg (Q1 ae))).2.2.1/\(gD ds d4.2.2 zD).2.1=(rb (rg (Q1 ae))).2.2.2.1/\(gD ds d4.2.2 zD).2.2.1=(Q1 (Q1 ae)).1/\(gD ds d4.2.2 zD).2.2.2.1=(Q1 (Q1 ae)).2.1/\(gD ds d4.2.2 zD).2.2.2.2=(Q1 (Q1 ae)).2.2.1/\nS)/\True/\True/\True/\True/\True/\True/\True/\True/\True/\True/\True/\True/\True/\True/\True/\True/\True/\True/\True/\True/\True/\True/\True/\True/\True/\True/\True/\True/\True/\True/\True/\True/\True/\True/\True/\True/\True/\True/\True/\True/\True/\True/\nS))/\(hk=(rb ae).2.2.1/\lw=(rb ae).2.2.2.1/\hd=(rg ae).1/\rows=(rg ae).2.1/\nS)/\(d4.2.1=(rg ae).2.2.1)/\True/\((gD ds d4.2.2 zD).1=(rg ae).2.2.2.1/\(gD ds d4.2.2 zD).2.1=(rb (rg ae)).1/\(gD ds d4.2.2 zD).2.2.1=(rb (rg ae)).2.1/\(gD ds d4.2.2 zD).2.2.2.1=(rb (rg ae)).2.2.1/\(gD ds d4.2.2 zD).2.2.2.2=(rb (rg ae)).2.2.2.1/\nS)/\(ds=(Q1 ae).1/\false=false)/\True)) /\
    LoopP (λ(d10:(List Int)×Int) (iI:((List Int)×Int)->Prop) =>
     ((decide (d10.2<(rb ae).2.1))=true ->
      (0<=d10.2)/\(d10.2<d10.1.length)/\(0<=ae.2.2.1)/\(I64 (YN .i64 (1:Int) ae.2.2.1))/\(0<=d10.2)/\(d10.2<d10.1.length)/\((!(rb ae).1)=true ->
       (0<=d10.2)/\(d10.2<(List.length (sT d10.1 d10.2 (QB .or .i64 (gD d10.1 d10.2 0) (YN .i64 (1:Int) ae.2.2.1)))))/\(0<=ae.2.2.1)/\(I64 (YN .i64 (1:Int) ae.2.2.1))/\(0<=d10.2)/\(d10.2<(List.length (sT d10.1 d10.2 (QB .or .i64 (gD d10.1 d10.2 0) (YN .i64 (1:Int) ae.2.2.1)))))/\(I64 (d10.2+(1:Int)))/\(∃ d11:(List Int)×Int,((True/\True/\(rb ae).2.1=(rb ae).2.1/\(d10.2+(1:Int))=d11.2/\True)/\(((sT (sT d10.1 d10.2 (QB .or .i64 (gD d10.1 d10.2 0) (YN .i64 (1:Int) ae.2.2.1))) d10.2 (QB .xor .i64 (gD (sT d10.1 d10.2 (QB .or .i64 (gD d10.1 d10.2 0) (YN .i64 (1:Int) ae.2.2.1))) d10.2 0) (YN .i64 (1:Int) ae.2.2.1)))=d11.1/\false=false)/\(ae.1=ae.1/\ae.2.1=ae.2.1/\ae.2.2.1=ae.2.2.1/\ae.2.2.2.1=ae.2.2.2.1/\(rb ae).1=(rb ae).1/\nS)/\((Q1 (Q1 ae)).2.2.2=(Q1 (Q1 ae)).2.2.2/\(True/\True/\True/\True/\True/\True/\True/\True/\True/\True/\True/\True/\True/\True/\True/\True/\True/\True/\True/\True/\True/\True/\True/\True/\True/\True/\(Q1 ae).2.1=(Q1 ae).2.1/\(Q1 ae).2.2.1=(Q1 ae).2.2.1/\(Q1 ae).2.2.2.1=(Q1 ae).2.2.2.1/\True/\((rb (Q1 ae)).1=(rb (Q1 ae)).1/\(rb (Q1 ae)).2.1=(rb (Q1 ae)).2.1/\(rb (Q1 ae)).2.2.1=(rb (Q1 ae)).2.2.1/\(rb (Q1 ae)).2.2.2.1=(rb (Q1 ae)).2.2.2.1/\(rg (Q1 ae)).1=(rg (Q1 ae)).1/\nS)/\True/\True/\(rg (Q1 ae)).2.1=(rg (Q1 ae)).2.1/\GV/\((rg (Q1 ae)).2.2.1=(rg (Q1 ae)).2.2.1/\(rg (Q1 ae)).2.2.2.1=(rg (Q1 ae)).2.2.2.1/\(rb (rg (Q1 ae))).1=(rb (rg (Q1 ae))).1/\(rb (rg (Q1 ae))).2.1=(rb (rg (Q1 ae))).2.1/\nS)/\((rb (rg (Q1 ae))).2.2.1=(rb (rg (Q1 ae))).2.2.1/\(rb (rg (Q1 ae))).2.2.2.1=(rb (rg (Q1 ae))).2.2.2.1/\(Q1 (Q1 ae)).1=(Q1 (Q1 ae)).1/\(Q1 (Q1 ae)).2.1=(Q1 (Q1 ae)).2.1/\(Q1 (Q1 ae)).2.2.1=(Q1 (Q1 ae)).2.2.1/\nS)/\True/\True/\True/\True/\True/\True/\True/\True/\True/\True/\True/\True/\True/\True/\True/\True/\True/\True/\True/\True/\True/\True/\True/\True/\True/\True/\True/\True/\True/\True/\True/\True/\True/\True/\True/\True/\True/\True/\True/\True/\True/\True/\nS))/\((rb ae).2.2.1=(rb ae).2.2.1/\(rb ae).2.2.2.1=(rb ae).2.2.2.1/\(rg ae).1=(rg ae).1/\(rg ae).2.1=(rg ae).2.1/\nS)/\((rg ae).2.2.1=(rg ae).2.2.1)/\True/\((rg ae).2.2.2.1=(rg ae).2.2.2.1/\(rb (rg ae)).1=(rb (rg ae)).1/\(rb (rg ae)).2.1=(rb (rg ae)).2.1/\(rb (rg ae)).2.2.1=(rb (rg ae)).2.2.1/\(rb (rg ae)).2.2.2.1=(rb (rg ae)).2.2.2.1/\nS)/\((Q1 ae).1=(Q1 ae).1/\false=false)/\True))/\iI d11)) /\
      ((!(rb ae).1)=false ->
       (I64 (d10.2+(1:Int)))/\(∃ d12:(List Int)×Int,((True/\True/\(rb ae).2.1=(rb ae).2.1/\(d10.2+(1:Int))=d12.2/\True)/\(((sT d10.1 d10.2 (QB .or .i64 (gD d10.1 d10.2 0) (YN .i64 (1:Int) ae.2.2.1)))=d12.1/\false=false)/\(ae.1=ae.1/\ae.2.1=ae.2.1/\ae.2.2.1=ae.2.2.1/\ae.2.2.2.1=ae.2.2.2.1/\(rb ae).1=(rb ae).1/\nS)/\((Q1 (Q1 ae)).2.2.2=(Q1 (Q1 ae)).2.2.2/\(True/\True/\True/\True/\True/\True/\True/\True/\True/\True/\True/\True/\True/\True/\True/\True/\True/\True/\True/\True/\True/\True/\True/\True/\True/\True/\(Q1 ae).2.1=(Q1 ae).2.1/\(Q1 ae).2.2.1=(Q1 ae).2.2.1/\(Q1 ae).2.2.2.1=(Q1 ae).2.2.2.1/\True/\((rb (Q1 ae)).1=(rb (Q1 ae)).1/\(rb (Q1 ae)).2.1=(rb (Q1 ae)).2.1/\(rb (Q1 ae)).2.2.1=(rb (Q1 ae)).2.2.1/\(rb (Q1 ae)).2.2.2.1=(rb (Q1 ae)).2.2.2.1/\(rg (Q1 ae)).1=(rg (Q1 ae)).1/\nS)/\True/\True/\(rg (Q1 ae)).2.1=(rg (Q1 ae)).2.1/\GV/\((rg (Q1 ae)).2.2.1=(rg (Q1 ae)).2.2.1/\(rg (Q1 ae)).2.2.2.1=(rg (Q1 ae)).2.2.2.1/\(rb (rg (Q1 ae))).1=(rb (rg (Q1 ae))).1/\(rb (rg (Q1 ae))).2.1=(rb (rg (Q1 ae))).2.1/\nS)/\((rb (rg (Q1 ae))).2.2.1=(rb (rg (Q1 ae))).2.2.1/\(rb (rg (Q1 ae))).2.2.2.1=(rb (rg (Q1 ae))).2.2.2.1/\(Q1 (Q1 ae)).1=(Q1 (Q1 ae)).1/\(Q1 (Q1 ae)).2.1=(Q1 (Q1 ae)).2.1/\(Q1 (Q1 ae)).2.2.1=(Q1 (Q1 ae)).2.2.1/\nS)/\True/\True/\True/\True/\True/\True/\True/\True/\True/\True/\True/\True/\True/\True/\True/\True/\True/\True/\True/\True/\True/\True/\True/\True/\True/\True/\True/\True/\True/\True/\True/\True/\True/\True/\True/\True/\True/\True/\True/\True/\True/\True/\nS))/\((rb ae).2.2.1=(rb ae).2.2.1/\(rb ae).2.2.2.1=(rb ae).2.2.2.1/\(rg ae).1=(rg ae).1/\(rg ae).2.1=(rg ae).2.1/\nS)/\((rg ae).2.2.1=(rg ae).2.2.1)/\True/\((rg ae).2.2.2.1=(rg ae).2.2.2.1/\(rb (rg ae)).1=(rb (rg ae)).1/\(rb (rg ae)).2.1=(rb (rg ae)).2.1/\(rb (rg ae)).2.2.1=(rb (rg ae)).2.2.1/\(rb (rg ae)).2.2.2.1=(rb (rg ae)).2.2.2.1/\nS)/\((Q1 ae).1=(Q1 ae).1/\false=false)/\True))/\iI d12))) /\
     ((decide (d10.2<(rb ae).2.1))=false ->
      (Q1 (Q1 ae)).2.2.2=w7/\(I64 ((Q1 ae).2.2.1+(1:Int)))/\(∃ d13:(List Int)×(List (Int×Bool))×Int,((True/\True/\True/\True/\True/\(Q1 ae).2.1=(lI ds)/\((Q1 ae).2.2.1+(1:Int))=d13.2.2/\True)/\(((rb ae).2.2.1=hk/\(rb ae).2.2.2.1=lw/\(rg ae).1=hd/\(rg ae).2.1=rows/\nS)/\(d10.1=d13.1/\false=false)/\((rg ae).2.2.1=d13.2.1)/\True/\((Q1 ae).1=ds/\false=false)/\True))/\q4 d13))) d100) /\
   ((gD ds d4.2.2 zD).1=(3:Int) ->
    ∀ lA:List Value,∃ (af:(List Int)×Int×Int×Int×Int×Bool×Int×Int×(List Int)×Int×(List Int)×(List (Int×Bool))×Int×Int×Int×Int×Bool×(List HH)×Int×Int×Bool×Int×Int×Int×Int×Bool×Int×Int×(List Int)×Int×(List Int)×Int×Int×Int×Int×Bool×(List Value)) (d170:Int×Int),((True/\True/\(0:Int)=d170.1/\hd=(rb af).2.2.1/\(0:Int)=d170.2/\True)/\((d4.1=af.1/\false=false)/\((gD ds d4.2.2 zD).1=af.2.1/\(gD ds d4.2.2 zD).2.1=af.2.2.1/\(gD ds d4.2.2 zD).2.2.1=af.2.2.2.1/\(gD ds d4.2.2 zD).2.2.2.1=(rb af).1/\(gD ds d4.2.2 zD).2.2.2.2=(rb af).2.1/\nS)/\((rb (Q1 (Q1 af)))=lA/\(True/\True/\True/\True/\True/\True/\True/\True/\True/\True/\True/\True/\True/\True/\True/\True/\True/\True/\True/\True/\True/\True/\True/\True/\True/\True/\(lI ds)=(Q1 af).2.2.1/\d4.2.2=(Q1 af).2.2.2.1/\(decide (d4.2.2<(lI ds)))=(rb (Q1 af)).1/\True/\((gD ds d4.2.2 zD).1=(rb (Q1 af)).2.1/\(gD ds d4.2.2 zD).2.1=(rb (Q1 af)).2.2.1/\(gD ds d4.2.2 zD).2.2.1=(rb (Q1 af)).2.2.2.1/\(gD ds d4.2.2 zD).2.2.2.1=(rg (Q1 af)).1/\(gD ds d4.2.2 zD).2.2.2.2=(rg (Q1 af)).2.1/\nS)/\True/\True/\(3:Int)=(rg (Q1 af)).2.2.1/\GV/\(hk=(rg (Q1 af)).2.2.2.1/\lw=(rb (rg (Q1 af))).1/\hd=(rb (rg (Q1 af))).2.1/\rows=(rb (rg (Q1 af))).2.2.1/\nS)/\((gD ds d4.2.2 zD).1=(rb (rg (Q1 af))).2.2.2.1/\(gD ds d4.2.2 zD).2.1=(Q1 (Q1 af)).1/\(gD ds d4.2.2 zD).2.2.1=(Q1 (Q1 af)).2.1/\(gD ds d4.2.2 zD).2.2.2.1=(Q1 (Q1 af)).2.2.1/\(gD ds d4.2.2 zD).2.2.2.2=(Q1 (Q1 af)).2.2.2.1/\nS)/\True/\True/\True/\True/\True/\True/\True/\True/\True/\True/\True/\True/\True/\True/\True/\True/\True/\True/\True/\True/\True/\True/\True/\True/\True/\True/\True/\True/\True/\True/\True/\True/\True/\True/\True/\True/\True/\True/\True/\True/\True/\True/\nS))/\(hk=(rb af).2.2.2.1/\lw=(rg af).1/\hd=(rg af).2.1/\rows=(rg af).2.2.1/\nS)/\(d4.2.1=(rg af).2.2.2.1)/\True/\((gD ds d4.2.2 zD).1=(rb (rg af)).1/\(gD ds d4.2.2 zD).2.1=(rb (rg af)).2.1/\(gD ds d4.2.2 zD).2.2.1=(rb (rg af)).2.2.1/\(gD ds d4.2.2 zD).2.2.2.1=(rb (rg af)).2.2.2.1/\(gD ds d4.2.2 zD).2.2.2.2=(Q1 af).1/\nS)/\(ds=(Q1 af).2.1/\false=false)/\True)) /\
    LoopP (λ(d17:Int×Int) (qN:(Int×Int)->Prop) =>
     ((decide (d17.2<(rb af).2.2.1))=true ->
      (0<=(1:Int))/\(I64 (YN .i64 d17.1 (1:Int)))/\(0<=af.2.2.1)/\(af.2.2.1<(List.length af.1))/\(0<=d17.2)/\(I64 (d17.2+(1:Int)))/\(∃ d18:Int×Int,((True/\True/\(QB .or .i64 (YN .i64 d17.1 (1:Int)) (QB .and .i64 (UH .i64 (gD af.1 af.2.2.1 0) d17.2) (1:Int)))=d18.1/\(rb af).2.2.1=(rb af).2.2.1/\(d17.2+(1:Int))=d18.2/\True)/\((af.1=af.1/\false=false)/\(af.2.1=af.2.1/\af.2.2.1=af.2.2.1/\af.2.2.2.1=af.2.2.2.1/\(rb af).1=(rb af).1/\(rb af).2.1=(rb af).2.1/\nS)/\((rb (Q1 (Q1 af)))=(rb (Q1 (Q1 af)))/\(True/\True/\True/\True/\True/\True/\True/\True/\True/\True/\True/\True/\True/\True/\True/\True/\True/\True/\True/\True/\True/\True/\True/\True/\True/\True/\(Q1 af).2.2.1=(Q1 af).2.2.1/\(Q1 af).2.2.2.1=(Q1 af).2.2.2.1/\(rb (Q1 af)).1=(rb (Q1 af)).1/\True/\((rb (Q1 af)).2.1=(rb (Q1 af)).2.1/\(rb (Q1 af)).2.2.1=(rb (Q1 af)).2.2.1/\(rb (Q1 af)).2.2.2.1=(rb (Q1 af)).2.2.2.1/\(rg (Q1 af)).1=(rg (Q1 af)).1/\(rg (Q1 af)).2.1=(rg (Q1 af)).2.1/\nS)/\True/\True/\(rg (Q1 af)).2.2.1=(rg (Q1 af)).2.2.1/\GV/\((rg (Q1 af)).2.2.2.1=(rg (Q1 af)).2.2.2.1/\(rb (rg (Q1 af))).1=(rb (rg (Q1 af))).1/\(rb (rg (Q1 af))).2.1=(rb (rg (Q1 af))).2.1/\(rb (rg (Q1 af))).2.2.1=(rb (rg (Q1 af))).2.2.1/\nS)/\((rb (rg (Q1 af))).2.2.2.1=(rb (rg (Q1 af))).2.2.2.1/\(Q1 (Q1 af)).1=(Q1 (Q1 af)).1/\(Q1 (Q1 af)).2.1=(Q1 (Q1 af)).2.1/\(Q1 (Q1 af)).2.2.1=(Q1 (Q1 af)).2.2.1/\(Q1 (Q1 af)).2.2.2.1=(Q1 (Q1 af)).2.2.2.1/\nS)/\True/\True/\True/\True/\True/\True/\True/\True/\True/\True/\True/\True/\True/\True/\True/\True/\True/\True/\True/\True/\True/\True/\True/\True/\True/\True/\True/\True/\True/\True/\True/\True/\True/\True/\True/\True/\True/\True/\True/\True/\True/\True/\nS))/\((rb af).2.2.2.1=(rb af).2.2.2.1/\(rg af).1=(rg af).1/\(rg af).2.1=(rg af).2.1/\(rg af).2.2.1=(rg af).2.2.1/\nS)/\((rg af).2.2.2.1=(rg af).2.2.2.1)/\True/\((rb (rg af)).1=(rb (rg af)).1/\(rb (rg af)).2.1=(rb (rg af)).2.1/\(rb (rg af)).2.2.1=(rb (rg af)).2.2.1/\(rb (rg af)).2.2.2.1=(rb (rg af)).2.2.2.1/\(Q1 af).1=(Q1 af).1/\nS)/\((Q1 af).2.1=(Q1 af).2.1/\false=false)/\True))/\qN d18)) /\
     ((decide (d17.2<(rb af).2.2.1))=false ->
      (0<=af.2.2.1)/\(af.2.2.1<(List.length af.1))/\(rb (Q1 (Q1 af)))=lA/\(I64 ((Q1 af).2.2.2.1+(1:Int)))/\(∃ d19:(List Int)×(List (Int×Bool))×Int,((True/\True/\True/\True/\True/\(Q1 af).2.2.1=(lI ds)/\((Q1 af).2.2.2.1+(1:Int))=d19.2.2/\True)/\(((rb af).2.2.2.1=hk/\(rg af).1=lw/\(rg af).2.1=hd/\(rg af).2.2.1=rows/\nS)/\((sT af.1 af.2.2.1 d17.1)=d19.1/\false=false)/\((rg af).2.2.2.1=d19.2.1)/\True/\((Q1 af).2.1=ds/\false=false)/\True))/\q4 d19))) d170) /\
   ((gD ds d4.2.2 zD).1=(4:Int) ->
    ∀ ma:List Value,(I64 ((gD ds d4.2.2 zD).2.1+(1:Int)))/\((lI d4.1)≠0)/\(0<=(gD ds d4.2.2 zD).2.1)/\((gD ds d4.2.2 zD).2.1<d4.1.length)/\(0<=(Int.tmod ((gD ds d4.2.2 zD).2.1+(1:Int)) (lI d4.1)))/\((Int.tmod ((gD ds d4.2.2 zD).2.1+(1:Int)) (lI d4.1))<d4.1.length)/\(0<=(gD ds d4.2.2 zD).2.1)/\((gD ds d4.2.2 zD).2.1<d4.1.length)/\(0<=(Int.tmod ((gD ds d4.2.2 zD).2.1+(1:Int)) (lI d4.1)))/\((Int.tmod ((gD ds d4.2.2 zD).2.1+(1:Int)) (lI d4.1))<(List.length (List.set d4.1 (Int.toNat (gD ds d4.2.2 zD).2.1) (gD d4.1 (Int.tmod ((gD ds d4.2.2 zD).2.1+(1:Int)) (lI d4.1)) 0))))/\ma=ma/\(I64 (d4.2.2+(1:Int)))/\(∃ d21:(List Int)×(List (Int×Bool))×Int,((True/\True/\True/\True/\True/\(lI ds)=(lI ds)/\(d4.2.2+(1:Int))=d21.2.2/\True)/\((hk=hk/\lw=lw/\hd=hd/\rows=rows/\nS)/\((sT (List.set d4.1 (Int.toNat (gD ds d4.2.2 zD).2.1) (gD d4.1 (Int.tmod ((gD ds d4.2.2 zD).2.1+(1:Int)) (lI d4.1)) 0)) (Int.tmod ((gD ds d4.2.2 zD).2.1+(1:Int)) (lI d4.1)) (List.getD d4.1 (Int.toNat (gD ds d4.2.2 zD).2.1) 0))=d21.1/\false=false)/\(d4.2.1=d21.2.1)/\True/\(ds=ds/\false=false)/\True))/\q4 d21)) /\
   ((gD ds d4.2.2 zD).1=(5:Int) ->
    ∀ mb:List Value,mb=mb/\(I64 (d4.2.2+(1:Int)))/\(∃ d23:(List Int)×(List (Int×Bool))×Int,((True/\True/\True/\True/\True/\(lI ds)=(lI ds)/\(d4.2.2+(1:Int))=d23.2.2/\True)/\((hk=hk/\lw=lw/\hd=hd/\rows=rows/\nS)/\(d4.1=d23.1/\false=false)/\((Z2x (.i .i64) d4.2.1 (gD ds d4.2.2 zD).2.2.2.1 true)=d23.2.1)/\True/\(ds=ds/\false=false)/\True))/\q4 d23)) /\
   True) /\
  ((decide (d4.2.2<(lI ds)))=false ->
   (lw.length<=110/\d4.1.length<=110)/\∃ (eL:(List (Int×Bool))×Int) (eM:(List (List UInt8))×Int),((True/\True/\True/\(lI (QY hk lw hd d4.1))=eL.2/\(0:Int)=eM.2/\True)/\(((QY hk lw hd d4.1)=eM.1/\(QY hk lw hd d4.1).isEmpty=(List.isEmpty eM.1))/\(d4.2.1=eL.1)/\True)) /\
   LoopP (λ(d26:(List (List UInt8))×Int) (qO:((List (List UInt8))×Int)->Prop) =>
    ((decide (d26.2<eL.2))=true ->
     (0<=d26.2)/\(d26.2<d26.1.length)/\((List.length (gD d26.1 d26.2 []))<=4611686018427387904)/\∃ (aS:(List (List UInt8))×(List (Int×Bool))×Int×Int×Int×(List (Int×Bool))) (fU:(List Int)×(List Nat)),((True/\True/\d26.2=aS.2.2.1/\True/\True/\eL.2=aS.2.2.2.1/\d26.2=(rb aS).1/\True/\True)/\((d26.1=aS.1/\d26.1.isEmpty=(List.isEmpty aS.1))/\(eL.1=aS.2.1)/\((List.map (λ(b:UInt8)=>(UInt8.toNat b:Int)) (gD d26.1 d26.2 []))=fU.1/\false=false)/\(eL.1=(rb aS).2/\([]:List Nat)=fU.2)/\True)) /\
     LoopP (λ(d29:(List Int)×(List Nat)) (qP:((List Int)×(List Nat))->Prop) =>
      ((∀ r:Nat,r<(List.length (rb aS).2)->r∈d29.2) ->
       (0<=aS.2.2.1)/\(aS.2.2.1<(List.length aS.1))/\(I64 ((rb aS).1+(1:Int)))/\(∃ d31:(List (List UInt8))×Int,((True/\True/\True/\aS.2.2.2.1=eL.2/\((rb aS).1+(1:Int))=d31.2/\True)/\(((sT aS.1 aS.2.2.1 (VM d29.1))=d31.1/\(List.isEmpty aS.1)=d31.1.isEmpty)/\(aS.2.1=eL.1)/\True))/\qO d31)) /\
      (∀ fW:Nat,fW<(List.length (rb aS).2)->fW∉d29.2 ->
       ((d29.2++[fW])≠[])/\(0<=(List.getD (rb aS).2 (List.getLastD (d29.2++[fW]) 0) (0,false)).1)/\((List.getD (rb aS).2 (List.getLastD (d29.2++[fW]) 0) (0,false)).1<d29.1.length)/\(∃ d32:(List Int)×(List Nat),((True/\True/\aS.2.2.1=aS.2.2.1/\True/\True/\aS.2.2.2.1=aS.2.2.2.1/\(rb aS).1=(rb aS).1/\True/\True)/\((aS.1=aS.1/\(List.isEmpty aS.1)=(List.isEmpty aS.1))/\(aS.2.1=aS.2.1)/\((List.set d29.1 (Int.toNat (List.getD (rb aS).2 (List.getLastD (d29.2++[fW]) 0) (0,false)).1) (46:Int))=d32.1/\false=false)/\((rb aS).2=(rb aS).2/\(d29.2++[fW])=d32.2)/\True))/\qP d32))) fU) /\
    ((decide (d26.2<eL.2))=false ->
     (True/\((d26.1=(XR lw hd rows ds)/\d26.1.isEmpty=false)/\True)))) eM)) d40
def Jf:Cx:=⟨[(1000001,(.i .i64))],[],3,[],0,[],[],[],[],false,[],[],[],[]⟩
def Jj:List (Nat×LoopAnn):=[]
def ZX:Cx:=⟨[],[],18,[],0,[],[],[],[],false,[],[],[],[]⟩
def ZQ:List (Nat×LoopAnn):=[]
def Z_:Cx:=⟨[],[],36,[],0,[],[],[],[],false,[],[],[],[]⟩
def ZW:List (Nat×LoopAnn):=[(0,⟨Int×Int×Int×Int×Bool×Int×Int×(List Int)×Int×(List Int)×(List (Int×Bool))×Int×Int×Int×Int×Bool×(List (Int×Int×Int×Int×Bool))×Int×Int×Bool×Int×Int×Int×Int×Bool×Int×Int×(List Int)×Int×(List Int)×Int×Int×Int×Int×Bool×(List Value),(List Int)×Int,[2,5,10,11],λe x=>[.lst 18,.box 4000005 0,.val (.i .i64) (rb e).2.1,.val (.i .i64) x.2],λe x=>[(18,.slot 2,.lst 3 (.i .i64) x.1 false),(4000005,.slot 5,.cells [.val (.i .i64) e.1,.val (.i .i64) e.2.1,.val (.i .i64) e.2.2.1,.val (.i .i64) e.2.2.2.1,.val .bo (rb e).1] (some 36)),(3999999,.key 3999999,.stk [.any,.any,.box 2 0,.any,.any,.lst 18,.map 19,.map 2500001,.any,.box 9 0,.any,.any,.any,.any,.any,.any,.any,.any,.any,.any,.any,.any,.any,.any,.any,.lst 21,.val (.i .i64) (Q1 e).2.1,.val (.i .i64) (Q1 e).2.2.1,.val .bo (Q1 e).2.2.2.1,.any,.agg [.val (.i .i64) (rb (Q1 e)).1,.val (.i .i64) (rb (Q1 e)).2.1,.val (.i .i64) (rb (Q1 e)).2.2.1,.val (.i .i64) (rb (Q1 e)).2.2.2.1,.val .bo (rg (Q1 e)).1],.map 2500001,.box 9 0,.val (.i .i64) (rg (Q1 e)).2.1,.fn 118 [] [],.agg [.val (.i .i64) (rg (Q1 e)).2.2.1,.val (.list (.i .i64)) (rg (Q1 e)).2.2.2.1,.val (.i .i64) (rb (rg (Q1 e))).1,.val (.list (.i .i64)) (rb (rg (Q1 e))).2.1],.agg [.val (.i .i64) (rb (rg (Q1 e))).2.2.1,.val (.i .i64) (rb (rg (Q1 e))).2.2.2.1,.val (.i .i64) (Q1 (Q1 e)).1,.val (.i .i64) (Q1 (Q1 e)).2.1,.val .bo (Q1 (Q1 e)).2.2.1],.lst 18,.map 19,.any,.any,.any,.any,.any,.any,.any,.any,.any,.any,.any,.any,.any,.any,.any,.any,.any,.any,.any,.any,.any,.any,.any,.any,.any,.any,.any,.any,.any,.any,.any,.any,.any,.any,.any,.any,.any,.any,.any,.any] (Q1 (Q1 e)).2.2.2),(2,.key 2,.cells [.val (.i .i64) (rb e).2.2.1,.val (.list (.i .i64)) (rb e).2.2.2.1,.val (.i .i64) (rg e).1,.val (.list (.i .i64)) (rg e).2.1] (some 90)),(19,.key 19,.map (.i .i64) .bo (rg e).2.2.1),(2500001,.key 2500001,.fm .i64 [(1,117),(2,118),(3,119),(4,120),(5,121)]),(9,.key 9,.cells [.val (.i .i64) (rg e).2.2.2.1,.val (.i .i64) (rb (rg e)).1,.val (.i .i64) (rb (rg e)).2.1,.val (.i .i64) (rb (rg e)).2.2.1,.val .bo (rb (rg e)).2.2.2.1] (some 36)),(21,.key 21,.lst 36 (.pair (.i .i64) (.pair (.i .i64) (.pair (.i .i64) (.pair (.i .i64) .bo)))) (Q1 e).1 false)]⟩)]
def ZR:Cx:=⟨[],[],34,[],0,[],[],[],[],false,[],[],[],[]⟩
def ZV:List (Nat×LoopAnn):=[(0,⟨(List Int)×Int×Int×Int×Int×Bool×Int×Int×(List Int)×Int×(List Int)×(List (Int×Bool))×Int×Int×Int×Int×Bool×(List (Int×Int×Int×Int×Bool))×Int×Int×Bool×Int×Int×Int×Int×Bool×Int×Int×(List Int)×Int×(List Int)×Int×Int×Int×Int×Bool×(List Value),Int×Int,[2,5,8,13,14],λe x=>[.lst 18,.box 4000005 0,.val (.i .i64) x.1,.val (.i .i64) (rb e).2.2.1,.val (.i .i64) x.2],λe x=>[(18,.slot 2,.lst 3 (.i .i64) e.1 false),(4000005,.slot 5,.cells [.val (.i .i64) e.2.1,.val (.i .i64) e.2.2.1,.val (.i .i64) e.2.2.2.1,.val (.i .i64) (rb e).1,.val .bo (rb e).2.1] (some 36)),(3999999,.key 3999999,.stk [.any,.any,.box 2 0,.any,.any,.lst 18,.map 19,.map 2500001,.any,.box 9 0,.any,.any,.any,.any,.any,.any,.any,.any,.any,.any,.any,.any,.any,.any,.any,.lst 21,.val (.i .i64) (Q1 e).2.2.1,.val (.i .i64) (Q1 e).2.2.2.1,.val .bo (rb (Q1 e)).1,.any,.agg [.val (.i .i64) (rb (Q1 e)).2.1,.val (.i .i64) (rb (Q1 e)).2.2.1,.val (.i .i64) (rb (Q1 e)).2.2.2.1,.val (.i .i64) (rg (Q1 e)).1,.val .bo (rg (Q1 e)).2.1],.map 2500001,.box 9 0,.val (.i .i64) (rg (Q1 e)).2.2.1,.fn 119 [] [],.agg [.val (.i .i64) (rg (Q1 e)).2.2.2.1,.val (.list (.i .i64)) (rb (rg (Q1 e))).1,.val (.i .i64) (rb (rg (Q1 e))).2.1,.val (.list (.i .i64)) (rb (rg (Q1 e))).2.2.1],.agg [.val (.i .i64) (rb (rg (Q1 e))).2.2.2.1,.val (.i .i64) (Q1 (Q1 e)).1,.val (.i .i64) (Q1 (Q1 e)).2.1,.val (.i .i64) (Q1 (Q1 e)).2.2.1,.val .bo (Q1 (Q1 e)).2.2.2.1],.lst 18,.map 19,.any,.any,.any,.any,.any,.any,.any,.any,.any,.any,.any,.any,.any,.any,.any,.any,.any,.any,.any,.any,.any,.any,.any,.any,.any,.any,.any,.any,.any,.any,.any,.any,.any,.any,.any,.any,.any,.any,.any,.any] (rb (Q1 (Q1 e)))),(2,.key 2,.cells [.val (.i .i64) (rb e).2.2.2.1,.val (.list (.i .i64)) (rg e).1,.val (.i .i64) (rg e).2.1,.val (.list (.i .i64)) (rg e).2.2.1] (some 90)),(19,.key 19,.map (.i .i64) .bo (rg e).2.2.2.1),(2500001,.key 2500001,.fm .i64 [(1,117),(2,118),(3,119),(4,120),(5,121)]),(9,.key 9,.cells [.val (.i .i64) (rb (rg e)).1,.val (.i .i64) (rb (rg e)).2.1,.val (.i .i64) (rb (rg e)).2.2.1,.val (.i .i64) (rb (rg e)).2.2.2.1,.val .bo (Q1 e).1] (some 36)),(21,.key 21,.lst 36 (.pair (.i .i64) (.pair (.i .i64) (.pair (.i .i64) (.pair (.i .i64) .bo)))) (Q1 e).2.1 false)]⟩)]
def ZS:Cx:=⟨[],[],35,[],0,[],[],[],[],false,[],[],[],[]⟩
def ZU:List (Nat×LoopAnn):=[]
def J1:Cx:=⟨[],[],11,[],0,[],[],[],[],false,[],[],[],[]⟩
def ZY:List (Nat×LoopAnn):=[]
def YJ:Cx:=⟨[(1000019,(.pair (.i .i64) .bo))],[(76,ZL),(77,CSp.or Qn Qg),(79,Jm),(10,U8)],79,[4002117,4054019,3000066],0,[(78,Q9),(81,FJ Jf (λ_=>Jj) c81 [.tmp 0] 3),(117,FJ ZX (λ_=>ZQ) Z7r [] 18),(118,FJ Z_ (λ_=>ZW) Z7u [] 36),(119,FJ ZR (λ_=>ZV) Z7y [] 34),(120,FJ ZS (λ_=>ZU) Z7o [] 35),(121,FJ J1 (λ_=>ZY) Z7l [] 11)],[],[],[],false,[],[],[33,54,66],[]⟩
def Nh (hk:Int) (lw:List Int) (hd:Int) (rows:List Int) (ds:List (Int×Int×Int×Int×Bool)):List (Nat×LoopAnn):=[(0,⟨Unit,(List Int)×(List (Int×Bool))×Int,[2,5,6,7,25,26,27],λe x=>[.box 2 0,.lst 18,.map 19,.map 2500001,.lst 21,.val (.i .i64) ((ds.length:Nat):Int),.val (.i .i64) x.2.2],λe x=>[(2,.slot 2,.cells [.val (.i .i64) hk,.val (.list (.i .i64)) lw,.val (.i .i64) hd,.val (.list (.i .i64)) rows] (some 90)),(18,.slot 5,.lst 3 (.i .i64) x.1 false),(19,.slot 6,.map (.i .i64) .bo x.2.1),(2500001,.slot 7,.fm .i64 [(1,117),(2,118),(3,119),(4,120),(5,121)]),(21,.slot 25,.lst 36 (.pair (.i .i64) (.pair (.i .i64) (.pair (.i .i64) (.pair (.i .i64) .bo)))) ds false)]⟩),
 (2,⟨(List (Int×Bool))×Int,(List (List UInt8))×Int,[4,6,54,55,56],λe x=>[.lst 51,.map 19,.lst 51,.val (.i .i64) e.2,.val (.i .i64) x.2],λe x=>[(51,.slot 4,.lst 9 .st x.1 (List.isEmpty x.1)),(19,.slot 6,.rmap (.i .i64) .bo e.1)]⟩),
 (4,⟨(List (List UInt8))×(List (Int×Bool))×Int×Int×Int×(List (Int×Bool)),(List Int)×(List Nat),[4,6,10,12,54,55,56,64],λe x=>[.lst 51,.map 19,.val (.i .i64) e.2.2.1,.lst 62,.lst 51,.val (.i .i64) e.2.2.2.1,.val (.i .i64) (rb e).1,.box 64 0],λe x=>[(51,.slot 4,.lst 9 .st e.1 (List.isEmpty e.1)),(19,.slot 6,.rmap (.i .i64) .bo e.2.1),(62,.slot 12,.lst 5 (.i .u8) x.1 false),(64,.slot 64,.iter (.i .i64) .bo (rb e).2 x.2)]⟩)]
theorem Ng (d:(Int×List Int×Int×List Int)×List (Int×Int×Int×Int×Bool)):gwp (YJ) (Nh d.1.1 d.1.2.1 d.1.2.2.1 d.1.2.2.2 d.2) c34 0 (Y4 [.tmp 4] (Ye d) (Ya d)) (Qq 79 (AL.can Yx d))=Jh d.1.1 d.1.2.1 d.1.2.2.1 d.1.2.2.2 d.2:=by kernel_rfl
abbrev Nf:Prop:=OkC Tryz.prog 34 Zf
theorem UX (h:∀ (hk:Int) (lw:List Int) (hd:Int) (rows:List Int) (ds:List (Int×Int×Int×Int×Bool)),(Q6 hk lw hd rows=0/\lw.length<=110/\rows.length<=110/\ds.length=1/\∀ z∈ds,BK hd rows lw z=true)->Jh hk lw hd rows ds):OkC Tryz.prog 34 Zf :=
 Qu Z28 mixed (C:=YJ) (V:=λ(d:(Int×List Int×Int×List Int)×List (Int×Int×Int×Int×Bool))=>Jh d.1.1 d.1.2.1 d.1.2.2.1 d.1.2.2.2 d.2) ⟨(.cons XX (.cons (OkC.or Zo Z6) (.cons WD (.cons MZ .nil)))),(XsOk.cons QI (XsOk.cons (WN Z1z mixed (C:=Jf) ⟨.nil,XsOk.nil,ItsOk.nil,YlOk.nil,IysOk.nil,XfOk.nil⟩ (λ_=>Jj)) (XsOk.cons (WN Q6h mixed (C:=ZX) ⟨.nil,XsOk.nil,ItsOk.nil,YlOk.nil,IysOk.nil,XfOk.nil⟩ (λ_=>ZQ)) (XsOk.cons (WN Q5p mixed (C:=Z_) ⟨.nil,XsOk.nil,ItsOk.nil,YlOk.nil,IysOk.nil,XfOk.nil⟩ (λ_=>ZW)) (XsOk.cons (WN Q7a mixed (C:=ZR) ⟨.nil,XsOk.nil,ItsOk.nil,YlOk.nil,IysOk.nil,XfOk.nil⟩ (λ_=>ZV)) (XsOk.cons (WN Q6e mixed (C:=ZS) ⟨.nil,XsOk.nil,ItsOk.nil,YlOk.nil,IysOk.nil,XfOk.nil⟩ (λ_=>ZU)) (XsOk.cons (WN Q7d mixed (C:=J1) ⟨.nil,XsOk.nil,ItsOk.nil,YlOk.nil,IysOk.nil,XfOk.nil⟩ (λ_=>ZY)) XsOk.nil))))))),ItsOk.nil,YlOk.nil,IysOk.nil,XfOk.nil⟩ (Ng) λd hp=>h d.1.1 d.1.2.1 d.1.2.2.1 d.1.2.2.2 d.2 hp
theorem XV:Bq:=Bk λhk lw hd rows h=>by
 obtain⟨hw,cJ,bJ⟩:=h;obtain⟨f0,f1,f2,f3,f4,f5,f6⟩:=NR hw;have lB:∀ k:Nat,k<=110->InK .i64 ((k:Int)+1):=λk _=>by rw[Qf];omega
 unfold XW;(try delta Ua D7 Rl BV);(try delta lI gD sT I64 Q1 rg rb zD nS);refine⟨⟨by rintro rfl;simp at f4,by omega⟩,trivial,⟨by simp,λ_ _ _ _=>trivial⟩,λw1=>⟨rfl,(),(rows,[],0),(by and_intros<;>first|rfl|trivial|simp),?_⟩⟩;refine⟨λs=>s=(rows,[],0),λ_=>0,rfl,?_⟩;rintro _ rfl;refine⟨λc=>by simp at c,λ_=>⟨⟨cJ,bJ⟩,?_⟩⟩;dsimp only;have ew:QY hk lw hd rows=rows.map (ZF lw):=by unfold QY;rw[z7 hw]
 have er:XR lw hd rows []=(QY hk lw hd rows).map id:=by rw[ew,List.map_id];rfl
 rw[er];have qQ:(QY hk lw hd rows).length=rows.length:=by rw[ew,zM]
 have qR:∀ s∈QY hk lw hd rows,s.length=lw.length:=λs hs=>by rw[ew] at hs;obtain⟨r,_,rfl⟩:=zC.1 hs;simp[ZF]
 clear er ew;generalize QY hk lw hd rows=W at *
 refine⟨([],(W.length:Int)),(W,0),(by and_intros<;>first|rfl|trivial|simp),?_⟩;dsimp only;refine LoopP.count2 W.length (λk x=>x=PO id W k) (Lc _ _).symm (λk x hk hx q hq=>?_);subst hx;dsimp only;have fF:=By id W k;refine⟨λc=>?_,λc=>?_⟩
 .have c:k<W.length:=by simpa using c
  have gb:(W.getD k []).length=lw.length:=by rw[Qc c];exact qR _ (zl c)
  have aW:=E_ id W k [] c;have hq:=hq _ c rfl;rw[<-aW] at hq;simp only[ze,Lv _ _ _ _ c];generalize W.getD k []=S at *
  refine⟨by omega,by omega,by omega,(PO id W k,[],(k:Int),(W.length:Int),(k:Int),[]),(S.map (λ(b:UInt8)=>((b.toNat:Nat):Int)),[]),(by and_intros<;>first|rfl|trivial|simp),?_⟩;dsimp only;refine⟨λs=>s=(S.map (λ(b:UInt8)=>((b.toNat:Nat):Int)),[]),λs=>0,rfl,?_⟩;have he:(PO id W k).isEmpty=((PO id W k).set k (id S)).isEmpty:=by
   generalize PO id W k=M;cases M with
   |nil=>rfl
   |cons a l=>cases k<;>rfl
  rintro _ rfl;dsimp only;refine⟨λha=>?_,λr hr hn=>by (simp at hr)⟩;have hx:VM (S.map λ(b:UInt8)=>((b.toNat:Nat):Int))=id S:=by rw[L5];rfl
  refine⟨by omega,by omega,lB k (by omega),((PO id W k).set k (id S),(k:Int)+1),?_,hq⟩;rw[hx,he];exact(by and_intros<;>first|rfl|trivial|simp)
 .have c:k=W.length:=by
   have:¬ k<W.length:=by simpa using c
   omega
  rw[c,Fi];cases W with
  |nil=>simp at qQ;omega
  |cons a l=>exact(by and_intros<;>first|rfl|trivial|simp)
theorem Je:Nf:=UX λhk lw hd rows ds h=>by
 obtain⟨hw,cJ,bJ,dL,oX⟩:=h;obtain⟨d,rfl⟩:∃ d,ds=[d]:=zR.1 dL;have oX:=oX d (by simp);obtain⟨f0,f1,f2,f3,f4,f5,f6⟩:=NR hw;obtain⟨g1,g2,g3,g4,g5,g6,g7,g8⟩:=Ab oX;obtain⟨k1,k2⟩:=Q4n hw oX;have qS:(2:Int) ^ hd.toNat<=2 ^ 24:=by have:=Z2h (h:=hd.toNat) (by omega);have:=Kw hd.toNat;omega
 have dV:∀ k:Nat,k<rows.length->0<=rows.getD k 0/\rows.getD k 0<2 ^ 24:=λk hk=>by rw[Qc hk];have:=f6 _ (zl hk);omega
 have gm:InK .i64 (0+1):=by rw[Qf];omega
 have lB:∀ k:Nat,k<=110->InK .i64 ((k:Int)+1):=λk _=>by rw[Qf];omega
 have cY:=OK g5 (by omega);unfold Jh;(try delta GV HH);(try delta lI gD sT I64 Q1 rg rb zD nS);refine⟨⟨by rintro rfl;simp at f4,by omega⟩,⟨by simp,by simp⟩,⟨by simp,λ_ _ _ _=>trivial⟩,λw1=>⟨rfl,(),(rows,[],0),(by and_intros<;>first|rfl|trivial|simp),?_⟩⟩;refine⟨λs=>s=(rows,[],0)\/s=(Hi hd rows d,TM d,1),λs=>(1-s.2.2).toNat,.inl rfl,?_⟩;rintro _ (rfl|rfl)
 .refine⟨λ_=>?_,λc=>by simp at c⟩;dsimp only;have e0:List.getD [d] (Int.toNat 0) (0,(0,(0,(0,false))))=d:=rfl;rw[e0];refine⟨by omega,by simp,g1,by omega,λh1 w5=>?_,λh2 w7=>?_,λh3 lA=>?_,λh4 ma=>?_,λh5 mb=>?_,trivial⟩
  .have e:Hi hd rows d=rows.set d.2.1.toNat (QB .xor .i64 (rows.getD d.2.1.toNat 0) (YN .i64 1 d.2.2.1)):=by
    unfold Hi;rw[z7 h1,Q54 (dV _ (by omega)) g5 (by omega)]
   have eb:TM d=[]:=by unfold TM;rw[z6 (by omega)]
   refine⟨g3,g4,g5,cY,g3,g4,rfl,gm,(Hi hd rows d,TM d,1),?_,.inr rfl,by simp⟩;rw[e,eb];exact(by and_intros<;>first|rfl|trivial|simp)
  .refine⟨(d.1,d.2.1,d.2.2.1,d.2.2.2.1,d.2.2.2.2,(rows.length:Int),hk,lw,hd,rows,[],d.1,d.2.1,d.2.2.1,d.2.2.2.1,d.2.2.2.2,[d],(([d].length:Nat):Int),0,decide ((0:Int)<(([d].length:Nat):Int)),d.1,d.2.1,d.2.2.1,d.2.2.2.1,d.2.2.2.2,2,hk,lw,hd,rows,d.1,d.2.1,d.2.2.1,d.2.2.2.1,d.2.2.2.2,w7),(rows,0),(by and_intros<;>first|rfl|trivial|simp),?_⟩;dsimp only;refine LoopP.count2 rows.length (λk x=>x=PO (Q4b d.2.2.1.toNat d.2.2.2.2) rows k) (Lc _ _).symm (λk x hk hx q hq=>?_);subst hx;dsimp only;have fF:=By (Q4b d.2.2.1.toNat d.2.2.2.2) rows k;refine⟨λc=>?_,λc=>?_⟩
   .have c:k<rows.length:=by simpa using c
    have hr:=dV k c;have aW:=E_ (Q4b d.2.2.1.toNat d.2.2.2.2) rows k 0 c;have hq:=hq _ c rfl;rw[<-aW] at hq;simp only[ze,Lv _ _ _ _ c,xU,fF,Z41 hr g5 (show d.2.2.1<24 by omega)];refine⟨by omega,by omega,g5,cY,by omega,by omega,λhu=>?_,λhu=>?_⟩
    .have hu:d.2.2.2.2=false:=by simpa using hu
     have ao:=Nat.or_lt_two_pow (x:=(rows.getD k 0).toNat) (y:=2 ^ d.2.2.1.toNat) (n:=24) (by omega) (Nat.pow_lt_pow_right (by omega) (by omega));have e2:∀ v:Int,((PO (Q4b d.2.2.1.toNat d.2.2.2.2) rows k).set k v).getD k 0=v:=λv=>by rw[Qc (by rw[xU];omega),List.getElem_set_self]
     simp only[e2,List.set_set];rw[Q54 (r:=(((rows.getD k 0).toNat ||| 2 ^ d.2.2.1.toNat:Nat):Int)) (by omega) g5 (by omega)];refine⟨by omega,by omega,g5,cY,by omega,by omega,lB k (by omega),_,?_,hq⟩;have:Q4b d.2.2.1.toNat d.2.2.2.2 (rows.getD k 0)=((((rows.getD k 0).toNat ||| 2 ^ d.2.2.1.toNat) ^^^ 2 ^ d.2.2.1.toNat:Nat):Int):=by unfold Q4b;rw[hu];rfl
     rw[this];exact(by and_intros<;>first|rfl|trivial|simp)
    .have hu:d.2.2.2.2=true:=by simpa using hu
     refine⟨lB k (by omega),_,?_,hq⟩;have:Q4b d.2.2.1.toNat d.2.2.2.2 (rows.getD k 0)=(((rows.getD k 0).toNat ||| 2 ^ d.2.2.1.toNat:Nat):Int):=by unfold Q4b;rw[hu];rfl
     rw[this];exact(by and_intros<;>first|rfl|trivial|simp)
   .have c:k=rows.length:=by
     have:¬ k<rows.length:=by simpa using c
     omega
    have e:PO (Q4b d.2.2.1.toNat d.2.2.2.2) rows k=Hi hd rows d:=by rw[c,Fi];unfold Hi;rw[z6 (by omega),z7 h2];rfl
    have eb:TM d=[]:=by unfold TM;rw[z6 (by omega)]
    rw[e];refine⟨rfl,gm,(Hi hd rows d,TM d,1),?_,.inr rfl,by simp⟩;rw[eb];exact(by and_intros<;>first|rfl|trivial|simp)
  .refine⟨(rows,d.1,d.2.1,d.2.2.1,d.2.2.2.1,d.2.2.2.2,hd,hk,lw,hd,rows,[],d.1,d.2.1,d.2.2.1,d.2.2.2.1,d.2.2.2.2,[d],(([d].length:Nat):Int),0,decide ((0:Int)<(([d].length:Nat):Int)),d.1,d.2.1,d.2.2.1,d.2.2.2.1,d.2.2.2.2,3,hk,lw,hd,rows,d.1,d.2.1,d.2.2.1,d.2.2.2.1,d.2.2.2.2,lA),(0,0),(by and_intros<;>first|rfl|trivial|simp),?_⟩;dsimp only;have hr:=dV d.2.1.toNat (by omega);refine LoopP.count2 hd.toNat (λk x=>x=((Z1l hd.toNat (rows.getD d.2.1.toNat 0).toNat k:Nat):Int)) rfl (λk x hk hx q hq=>?_);subst hx;dsimp only;have bu:=Q68 (OY hd.toNat (rows.getD d.2.1.toNat 0).toNat k) (show k<=24 by omega) (show (rows.getD d.2.1.toNat 0).toNat<2 ^ 24 by omega);rw[show (((rows.getD d.2.1.toNat 0).toNat:Nat):Int)=rows.getD d.2.1.toNat 0 by omega] at bu;refine⟨λc=>?_,λc=>?_⟩
   .have c:k<hd.toNat:=by
     have:(k:Int)<hd:=by simpa using c
     omega
    refine⟨by omega,bu.2,g3,g4,by omega,lB k (by omega),_,?_,hq _ c rfl⟩;rw[bu.1];exact(by and_intros<;>first|rfl|trivial|simp)
   .have c:k=hd.toNat:=by
     have:¬ (k:Int)<hd:=by simpa using c
     omega
    have e:rows.set d.2.1.toNat ((Z1l hd.toNat (rows.getD d.2.1.toNat 0).toNat k:Nat):Int)=Hi hd rows d:=by rw[c];unfold Hi;rw[z6 (by omega),z6 (by omega),z7 h3]
    have eb:TM d=[]:=by unfold TM;rw[z6 (by omega)]
    rw[e];refine⟨g3,g4,rfl,gm,(Hi hd rows d,TM d,1),?_,.inr rfl,by simp⟩;rw[eb];exact(by and_intros<;>first|rfl|trivial|simp)
  .have et:Int.tmod (d.2.1+1) (rows.length:Int)=(((d.2.1.toNat+1) % rows.length:Nat):Int):=by
    rw[show d.2.1+1=((d.2.1.toNat+1:Nat):Int) by omega];rfl
   have ao:=xJ (d.2.1.toNat+1) (show rows.length > 0 by omega);have e:Hi hd rows d=(rows.set d.2.1.toNat (rows.getD ((d.2.1.toNat+1) % rows.length) 0)).set ((d.2.1.toNat+1) % rows.length) (rows.getD d.2.1.toNat 0):=by unfold Hi;rw[z6 (by omega),z6 (by omega),z6 (by omega),z7 h4]
   have eb:TM d=[]:=by unfold TM;rw[z6 (by omega)]
   rw[et];simp only[ze,xU];refine⟨by rw[Qf];omega,by omega,g3,g4,by omega,by omega,g3,g4,by omega,by omega,trivial,gm,(Hi hd rows d,TM d,1),?_,.inr rfl,by simp⟩;rw[e,eb];exact(by and_intros<;>first|rfl|trivial|simp)
  .have e:Hi hd rows d=rows:=by
    unfold Hi;rw[z6 (by omega),z6 (by omega),z6 (by omega),z6 (by omega)]
   have eb:TM d=[(d.2.2.2.1,true)]:=by unfold TM;rw[z7 h5]
   refine⟨rfl,gm,(Hi hd rows d,TM d,1),?_,.inr rfl,by simp⟩;rw[e,eb];exact(by and_intros<;>first|rfl|trivial|simp)
 .refine⟨λc=>by simp at c,λ_=>⟨⟨cJ,by dsimp only;omega⟩,?_⟩⟩;dsimp only;have ew:QY hk lw hd (Hi hd rows d)=(Hi hd rows d).map (ZF lw):=by unfold QY;rw[z7 k1]
  have er:XR lw hd rows [d]=(QY hk lw hd (Hi hd rows d)).map (CA d):=by rw[ew,wG];rfl
  rw[er];have qQ:(QY hk lw hd (Hi hd rows d)).length=rows.length:=by rw[ew,zM];exact k2
  have qR:∀ s∈QY hk lw hd (Hi hd rows d),s.length=lw.length:=λs hs=>by rw[ew] at hs;obtain⟨r,_,rfl⟩:=zC.1 hs;simp[ZF]
  clear er ew;generalize QY hk lw hd (Hi hd rows d)=W at *
  refine⟨(TM d,(W.length:Int)),(W,0),(by and_intros<;>first|rfl|trivial|simp),?_⟩;dsimp only;refine LoopP.count2 W.length (λk x=>x=PO (CA d) W k) (Lc _ _).symm (λk x hk hx q hq=>?_);subst hx;dsimp only;have fF:=By (CA d) W k;refine⟨λc=>?_,λc=>?_⟩
  .have c:k<W.length:=by simpa using c
   have gb:(W.getD k []).length=lw.length:=by rw[Qc c];exact qR _ (zl c)
   have aW:=E_ (CA d) W k [] c;have hq:=hq _ c rfl;rw[<-aW] at hq;simp only[ze,Lv _ _ _ _ c];generalize W.getD k []=S at *
   refine⟨by omega,by omega,by omega,(PO (CA d) W k,TM d,(k:Int),(W.length:Int),(k:Int),TM d),(S.map (λ(b:UInt8)=>((b.toNat:Nat):Int)),[]),(by and_intros<;>first|rfl|trivial|simp),?_⟩;dsimp only;refine⟨λs=>s=(S.map (λ(b:UInt8)=>((b.toNat:Nat):Int)),[])\/d.1=5/\s=((S.map (λ(b:UInt8)=>((b.toNat:Nat):Int))).set d.2.2.2.1.toNat 46,[0]),λs=>1-s.2.length,.inl rfl,?_⟩;have he:(PO (CA d) W k).isEmpty=((PO (CA d) W k).set k (CA d S)).isEmpty:=by
    generalize PO (CA d) W k=M;cases M with
    |nil=>rfl
    |cons a l=>cases k<;>rfl
   rintro _ (rfl|⟨h5,rfl⟩)
   .dsimp only;refine⟨λha=>?_,λr hr hn=>?_⟩
    .have h5:d.1≠5:=λh5=>by
      have:=ha 0 (by unfold TM;rw[z7 h5];simp);simp at this
     have hx:VM (S.map λ(b:UInt8)=>((b.toNat:Nat):Int))=CA d S:=by rw[L5];unfold CA;rw[z6 h5]
     refine⟨by omega,by omega,lB k (by omega),((PO (CA d) W k).set k (CA d S),(k:Int)+1),?_,hq⟩;rw[hx,he];exact(by and_intros<;>first|rfl|trivial|simp)
    .have h5:d.1=5:=Classical.byContradiction λh5=>by
      unfold TM at hr;rw[z6 h5] at hr;simp at hr
     have eb:TM d=[(d.2.2.2.1,true)]:=by unfold TM;rw[z7 h5]
     rw[eb] at hr |-;have hr:r=0:=by simp at hr;exact hr
     subst hr;refine⟨by simp,g7,?_,_,(by and_intros<;>first|rfl|trivial|simp),.inr ⟨h5,rfl⟩,by simp⟩;show d.2.2.2.1<_;simp only[zM];omega
   .dsimp only;refine⟨λha=>?_,λr hr hn=>?_⟩
    .have hx:VM ((S.map λ(b:UInt8)=>((b.toNat:Nat):Int)).set d.2.2.2.1.toNat 46)=CA d S:=by rw[Q6k];unfold CA;rw[z7 h5]
     refine⟨by omega,by omega,lB k (by omega),((PO (CA d) W k).set k (CA d S),(k:Int)+1),?_,hq⟩;rw[hx,he];exact(by and_intros<;>first|rfl|trivial|simp)
    .have eb:TM d=[(d.2.2.2.1,true)]:=by unfold TM;rw[z7 h5]
     rw[eb] at hr;have hr:r=0:=by simp at hr;exact hr
     subst hr;simp at hn
  .have c:k=W.length:=by
    have:¬ k<W.length:=by simpa using c
    omega
   rw[c,Fi];cases W with
   |nil=>simp at qQ;omega
   |cons a l=>exact(by and_intros<;>first|rfl|trivial|simp)
def KN (hk:Int) (lw:List Int) (hd:Int) (rows:List Int) (ds:List Dmg) (n:Int):List (List UInt8):=if Qs hk lw hd rows ds n=0 then Q92 lw hd rows ds n.toNat else []
theorem Hd {hk:Int}{lw:List Int}{hd:Int}{rows:List Int}{ds:List Dmg}{n:Int}(h:Qs hk lw hd rows ds n=0):Q6 hk lw hd rows=0/\(∀ z∈ds,BK hd rows lw z=true)/\1<=n/\n<=120:=by
 unfold Qs at h;split at h
 .exact(absurd h ‹_›)
 .rename_i h1;split at h
  .rename_i h2;have h1:Wx hk lw hd rows ds=0:=by omega
   unfold Wx at h1;split at h1
   .exact(absurd h1 ‹_›)
   .rename_i h3;split at h1
    .cases h1
    .split at h1
     .cases h1
     .rename_i h4;have h4:(ds.any λd=>!BK hd rows lw d)=false:=by simpa using h4
      unfold inI at h2;simp only[z0,zf] at h2;exact⟨by omega,λz hz=>by simpa using xw.1 h4 z hz,h2.1,h2.2⟩
  .cases h
theorem Z00 {hk:Int}{lw:List Int}{hd:Int}{rows:List Int}{ds:List Dmg}{n:Int}(h1:Q6 hk lw hd rows=0) (h2:∀ z∈ds,BK hd rows lw z=true) (h3:ds.length<=100) (h4:1<=n) (h5:n<=120):Qs hk lw hd rows ds n=0:=by
 have e1:Wx hk lw hd rows ds=0:=by unfold Wx;rw[z6 (by omega),z6 (by omega),z6];intro h;obtain⟨z,hz,h6⟩:=xS.1 h;rw[h2 z hz] at h6;cases h6
 unfold Qs;rw[z6 (by omega),z7 (by unfold inI;simp only[z0,zf];omega)]
theorem OZ {hk:Int}{lw:List Int}{hd:Int}{rows:List Int}{ds:List Dmg}{n:Int}(h:Qs hk lw hd rows ds n=0):Qs hk lw hd rows [] n=0:=by obtain⟨h1,_,h3,h4⟩:=Hd h;exact Z00 h1 (λz hz=>by cases hz) (by simp) h3 h4
def Q6y (w:Nat) (c:List (List UInt8)):Prop:=∀ s∈c,s.length=w/\∀ b∈s,b=46\/b=120
theorem Q6f (lw:List Int) (r:Int):(ZF lw r).length=lw.length/\∀ b∈ZF lw r,b=46\/b=120:=by
 refine⟨by simp[ZF],λb hb=>?_⟩;obtain⟨k,_,rfl⟩:=zC.1 hb;split
 .exact .inr rfl
 .exact .inl rfl
theorem Z6w {w:Nat}{s:List UInt8}(d:Dmg) (h:s.length=w/\∀ b∈s,b=46\/b=120):(CA d s).length=w/\∀ b∈CA d s,b=46\/b=120:=by
 unfold CA;split
 .refine⟨by simpa using h.1,λb hb=>?_⟩;rcases List.mem_or_eq_of_mem_set hb with h1|h1
  .exact h.2 b h1
  .exact .inl h1
 .exact h
theorem Im {hk:Int}{lw:List Int}{hd:Int}{rows:List Int}{ds:List Dmg}(hw:Q6 hk lw hd rows=0) (hz:∀ z∈ds,BK hd rows lw z=true):(XR lw hd rows ds).length=rows.length/\Q6y lw.length (XR lw hd rows ds):=by
 cases ds with
 |nil =>refine⟨by simp[XR],λs hs=>?_⟩;obtain⟨r,_,rfl⟩:=zC.1 hs;exact Q6f lw r
 |cons d l =>have dJ:=hz d (by simp);refine⟨by show ((Hi hd rows d).map _).length=_;rw[zM];exact(Q4n hw dJ).2,λs hs=>?_⟩;obtain⟨r,_,rfl⟩:=zC.1 hs;exact Z6w d (Q6f lw r)
theorem Z05 {hk:Int}{lw:List Int}{hd:Int}{rows:List Int}{ds:List Dmg}{n:Int}(h:Qs hk lw hd rows ds n=0):(KN hk lw hd rows ds n).length=n.toNat/\Q6y lw.length (KN hk lw hd rows ds n):=by
 obtain⟨h1,h2,h3,h4⟩:=Hd h;obtain⟨k1,k2⟩:=Im h1 h2;obtain⟨_,_,_,_,f4,_⟩:=NR h1;have e:KN hk lw hd rows ds n=Q92 lw hd rows ds n.toNat:=by unfold KN;rw[z7 h]
 rw[e];refine⟨by simp[Q92],λs hs=>?_⟩;obtain⟨i,_,rfl⟩:=zC.1 hs;have ao:=xJ i (show (XR lw hd rows ds).length > 0 by omega);rw[Qc ao];exact k2 _ (zl ao)
def IU (i:Nat) (s t:List UInt8) (k:Nat):List (Int×Int×Bool):=((List.range k).filter λ(w:Nat)=>s.getD w 0 != t.getD w 0).map λ(w:Nat)=>((i:Int),((w:Int),s.getD w 0==120))
theorem Q48 (i:Nat) (s t:List UInt8) (k:Nat):IU i s t (k+1)=IU i s t k++(if s.getD k 0 != t.getD k 0 then [((i:Int),((k:Int),s.getD k 0==120))] else []):=by
 unfold IU;rw[List.range_succ,List.filter_append,xd];congr 1;by_cases h:(s.getD k 0 != t.getD k 0)=true
 .rw[z7 h];simp only[xT,h,zq,List.filter_nil,xm,List.map_nil]
 .rw[z6 h];simp only[xT,h,List.filter_nil];rfl
theorem FM (i:Nat) (s t:List UInt8) (k:Nat):(IU i s t k).length<=k:=by unfold IU;rw[zM];exact zO (List.length_filter_le _ _) (by simp)
def Hf (a b:List (List UInt8)) (k:Nat):List (Int×Int×Bool):=(List.range k).flatMap λi=>Q7i i (a.getD i []) (b.getD i [])
theorem AF (a b:List (List UInt8)) (k:Nat):Hf a b (k+1)=Hf a b k++IU k (a.getD k []) (b.getD k []) (a.getD k []).length:=by unfold Hf;rw[List.range_succ,List.flatMap_append];simp only[List.flatMap_cons,List.flatMap_nil,x7];rfl
theorem I9 {w:Nat}(a b:List (List UInt8)) (h:Q6y w a):∀ k,k<=a.length->(Hf a b k).length<=w*k
 |0,_=>by simp[Hf]
 |k+1,hk=>by
  have ih:=I9 a b h k (by omega);have h1:=FM k (a.getD k []) (b.getD k []) (a.getD k []).length;have h2:(a.getD k []).length=w:=by rw[Qc (show k<a.length by omega)];exact(h _ (zl _)).1
  rw[AF,zk,Nat.mul_succ];omega
theorem Z3l (a b:UInt8):(((a.toNat:Nat):Int) != ((b.toNat:Nat):Int))=(a != b):=by
 by_cases h:a=b
 .subst h;simp
 .have h1:a.toNat≠b.toNat:=λe=>h (UInt8.toNat_inj.1 e);have e1:(a != b)=true:=by simpa using h
  have e2:(((a.toNat:Nat):Int) != ((b.toNat:Nat):Int))=true:=by simp only[bne_iff_ne,ne_eq];omega
  rw[e1,e2]
theorem Q4o (a:UInt8):(((a.toNat:Nat):Int)==120)=(a==120):=by
 by_cases h:a=120
 .subst h;rfl
 .have h1:a.toNat≠120:=λe=>h (UInt8.toNat_inj.1 e);have e1:(a==120)=false:=by simpa using h
  have e2:(((a.toNat:Nat):Int)==120)=false:=by simp only[zN,ne_eq];omega
  rw[e1,e2]
def Dk:AL ((Int×List Int×Int×List Int)×Unit×Int):=(.cons (.agg (.cons (.k (.i .i64)) (.cons (.k (.list (.i .i64))) (.cons (.k (.i .i64)) (.one (.k (.list (.i .i64)))))))) (.cons .nilS (.one (.k (.i .i64)))))
def Sx (d:(Int×List Int×Int×List Int)×Unit×Int):Prop:=d.1.2.1.length<=110/\d.1.2.2.2.length<=110
def MF (d:(Int×List Int×Int×List Int)×Unit×Int):SV:=.tup [.lst 0,.val (.i .i64) (Qs d.1.1 d.1.2.1 d.1.2.2.1 d.1.2.2.2 [] d.2.2)]
def ML (d:(Int×List Int×Int×List Int)×Unit×Int):List OB:=[.lst 9 .st (KN d.1.1 d.1.2.1 d.1.2.2.1 d.1.2.2.2 [] d.2.2) ((KN d.1.1 d.1.2.1 d.1.2.2.1 d.1.2.2.2 [] d.2.2).isEmpty)]
def Vp:CSp:=Wt Dk Sx MF ML
abbrev zfeave_0 :=([]:List (Int×Int×Int×Int×Bool))
def Kl (hk:Int) (lw:List Int) (hd:Int) (rows:List Int) (n:Int):Prop :=
 (lw.length<=110/\rows.length<=110/\zfeave_0.length<=1000)/\(((Qs hk lw hd rows zfeave_0 n) != (0:Int))=true ->
  ((True/\(Qs hk lw hd rows zfeave_0 n)=Qs hk lw hd rows [] n/\nS)/\(((KN hk lw hd rows [] n)=[]/\(KN hk lw hd rows [] n).isEmpty=true)/\True))) /\
 (((Qs hk lw hd rows zfeave_0 n) != (0:Int))=false ->
  (Q6 hk lw hd rows=0/\lw.length<=110/\rows.length<=110)/\∃ (e4:Unit) (d40:(List (List UInt8))×Int),((True/\True/\n=n/\(0:Int)=d40.2/\True)/\((d40.1=[]/\d40.1.isEmpty=true)/\((XR lw hd rows [])=(XR lw hd rows [])/\false=false)/\True)) /\
  LoopP (λ(d4:(List (List UInt8))×Int) (q4:((List (List UInt8))×Int)->Prop) =>
   ((decide (d4.2<n))=true ->
    ((lI (XR lw hd rows []))≠0)/\(0<=(Int.tmod d4.2 (lI (XR lw hd rows []))))/\((Int.tmod d4.2 (lI (XR lw hd rows [])))<(List.length (XR lw hd rows [])))/\((d4.1.length+(List.length [(gD (XR lw hd rows []) (Int.tmod d4.2 (lI (XR lw hd rows []))) [])]))*16<=70368744177664)/\(I64 (d4.2+(1:Int)))/\(∃ d5:(List (List UInt8))×Int,((True/\True/\n=n/\(d4.2+(1:Int))=d5.2/\True)/\(((d4.1++[(gD (XR lw hd rows []) (Int.tmod d4.2 (lI (XR lw hd rows []))) [])])=d5.1/\false=d5.1.isEmpty)/\((XR lw hd rows [])=(XR lw hd rows [])/\false=false)/\True))/\q4 d5)) /\
   ((decide (d4.2<n))=false ->
    ((True/\(0:Int)=Qs hk lw hd rows [] n/\nS)/\((d4.1=(KN hk lw hd rows [] n)/\d4.1.isEmpty=(KN hk lw hd rows [] n).isEmpty)/\True)))) d40)
def B8:Cx:=⟨[(9,.st)],[(33,Ue),(34,CSp.or Ji Zf)],38,[],0,[],[],[],[],false,[],[],[],[]⟩
def Cu (hk:Int) (lw:List Int) (hd:Int) (rows:List Int) (n:Int):List (Nat×LoopAnn):=[(0,⟨Unit,(List (List UInt8))×Int,[6,9,22,23],λe x=>[.lst 35,.lst 21,.val (.i .i64) n,.val (.i .i64) x.2],λe x=>[(35,.slot 6,.lst 9 .st x.1 (List.isEmpty x.1)),(21,.slot 9,.lst 9 .st (XR lw hd rows []) false)]⟩)]
theorem C9 (d:(Int×List Int×Int×List Int)×Unit×Int):gwp (B8) (Cu d.1.1 d.1.2.1 d.1.2.2.1 d.1.2.2.2 d.2.2) c8 0 (Y4 [.tmp 6,.tmp 7] (MF d) (ML d)) (Qq 38 (AL.can Dk d))=Kl d.1.1 d.1.2.1 d.1.2.2.1 d.1.2.2.2 d.2.2:=by kernel_rfl
abbrev Cw:Prop:=OkC Tryz.prog 8 Vp
theorem CX (h:∀ (hk:Int) (lw:List Int) (hd:Int) (rows:List Int) (n:Int),(lw.length<=110/\rows.length<=110)->Kl hk lw hd rows n):OkC Tryz.prog 8 Vp :=
 Qu Z9z mixed (C:=B8) (V:=λ(d:(Int×List Int×Int×List Int)×Unit×Int)=>Kl d.1.1 d.1.2.1 d.1.2.2.1 d.1.2.2.2 d.2.2) ⟨(.cons H6 (.cons (OkC.or XV Je) .nil)),XsOk.nil,ItsOk.nil,YlOk.nil,IysOk.nil,XfOk.nil⟩ (C9) λd hp=>h d.1.1 d.1.2.1 d.1.2.2.1 d.1.2.2.2 d.2.2 hp
theorem DY:Cw:=CX λhk lw hd rows n h=>by
 obtain⟨cJ,bJ⟩:=h;unfold Kl;(try delta zfeave_0);(try delta lI gD sT I64 Q1 rg rb zD nS);refine⟨⟨cJ,bJ,by simp⟩,λh1=>?_,λh1=>?_⟩
 .have h1:Qs hk lw hd rows [] n≠0:=by simpa using h1
  have e:KN hk lw hd rows [] n=[]:=by unfold KN;rw[z6 h1]
  rw[e];exact(by and_intros<;>first|rfl|trivial|simp)
 .have h1:Qs hk lw hd rows [] n=0:=by simpa using h1
  have ef:KN hk lw hd rows [] n=Q92 lw hd rows [] n.toNat:=by unfold KN;rw[z7 h1]
  rw[h1,ef];clear ef;obtain⟨hw,hz,e_,dM⟩:=Hd h1;have hr:=(Im hw hz).1;obtain⟨_,_,_,_,f4,_⟩:=NR hw;obtain⟨N,rfl⟩:=zA (show 0<=n by omega);refine⟨⟨hw,cJ,bJ⟩,(),([],0),(by and_intros<;>first|rfl|trivial|simp),?_⟩;refine LoopP.count2 N (λk x=>x=(List.range k).map λi=>(XR lw hd rows []).getD (i % (XR lw hd rows []).length) []) rfl (λk x hk hx q hq=>?_);subst hx;dsimp only;rw[show Int.tmod (k:Int) ((XR lw hd rows []).length:Int)=((k % (XR lw hd rows []).length:Nat):Int) from rfl];simp only[ze,zM,wz,zw,List.length_nil];have ao:=xJ k (show (XR lw hd rows []).length > 0 by omega);refine⟨λc=>?_,λc=>?_⟩
  .have c:k<N:=by simpa using c
   have hq:=hq _ c rfl;rw[List.range_succ,xd] at hq;refine⟨by omega,by omega,by omega,by omega,by rw[Qf];omega,_,?_,hq⟩;exact(by and_intros<;>first|rfl|trivial|simp)
  .have c:k=N:=by
    have:¬ k<N:=by simpa using c
    omega
   subst c;exact(by and_intros<;>first|rfl|trivial|simp)
def VS:AL ((Int×List Int×Int×List Int)×(List (Int×Int×Int×Int×Bool))×Int):=(.cons (.agg (.cons (.k (.i .i64)) (.cons (.k (.list (.i .i64))) (.cons (.k (.i .i64)) (.one (.k (.list (.i .i64)))))))) (.cons (.k (.list (.pair (.i .i64) (.pair (.i .i64) (.pair (.i .i64) (.pair (.i .i64) .bo)))))) (.one (.k (.i .i64)))))
def Dg (d:(Int×List Int×Int×List Int)×(List (Int×Int×Int×Int×Bool))×Int):Prop:=d.1.2.1.length<=110/\d.1.2.2.2.length<=110/\d.2.1.length=1
def V9 (d:(Int×List Int×Int×List Int)×(List (Int×Int×Int×Int×Bool))×Int):SV:=.tup [.lst 0,.val (.i .i64) (Qs d.1.1 d.1.2.1 d.1.2.2.1 d.1.2.2.2 d.2.1 d.2.2)]
def V6 (d:(Int×List Int×Int×List Int)×(List (Int×Int×Int×Int×Bool))×Int):List OB:=[.lst 9 .st (KN d.1.1 d.1.2.1 d.1.2.2.1 d.1.2.2.2 d.2.1 d.2.2) ((KN d.1.1 d.1.2.1 d.1.2.2.1 d.1.2.2.2 d.2.1 d.2.2).isEmpty)]
def Wo:CSp:=Wt VS Dg V9 V6
def XY (hk:Int) (lw:List Int) (hd:Int) (rows:List Int) (ds:List (Int×Int×Int×Int×Bool)) (n:Int):Prop :=
 (lw.length<=110/\rows.length<=110/\ds.length<=1000)/\(((Qs hk lw hd rows ds n) != (0:Int))=true ->
  ((True/\(Qs hk lw hd rows ds n)=Qs hk lw hd rows ds n/\nS)/\(((KN hk lw hd rows ds n)=[]/\(KN hk lw hd rows ds n).isEmpty=true)/\True))) /\
 (((Qs hk lw hd rows ds n) != (0:Int))=false ->
  (Q6 hk lw hd rows=0/\lw.length<=110/\rows.length<=110/\ds.length=1/\∀ z∈ds,BK hd rows lw z=true)/\∃ (e4:Unit) (d40:(List (List UInt8))×Int),((True/\True/\n=n/\(0:Int)=d40.2/\True)/\((d40.1=[]/\d40.1.isEmpty=true)/\((XR lw hd rows ds)=(XR lw hd rows ds)/\false=false)/\True)) /\
  LoopP (λ(d4:(List (List UInt8))×Int) (q4:((List (List UInt8))×Int)->Prop) =>
   ((decide (d4.2<n))=true ->
    ((lI (XR lw hd rows ds))≠0)/\(0<=(Int.tmod d4.2 (lI (XR lw hd rows ds))))/\((Int.tmod d4.2 (lI (XR lw hd rows ds)))<(List.length (XR lw hd rows ds)))/\((d4.1.length+(List.length [(gD (XR lw hd rows ds) (Int.tmod d4.2 (lI (XR lw hd rows ds))) [])]))*16<=70368744177664)/\(I64 (d4.2+(1:Int)))/\(∃ d5:(List (List UInt8))×Int,((True/\True/\n=n/\(d4.2+(1:Int))=d5.2/\True)/\(((d4.1++[(gD (XR lw hd rows ds) (Int.tmod d4.2 (lI (XR lw hd rows ds))) [])])=d5.1/\false=d5.1.isEmpty)/\((XR lw hd rows ds)=(XR lw hd rows ds)/\false=false)/\True))/\q4 d5)) /\
   ((decide (d4.2<n))=false ->
    ((True/\(0:Int)=Qs hk lw hd rows ds n/\nS)/\((d4.1=(KN hk lw hd rows ds n)/\d4.1.isEmpty=(KN hk lw hd rows ds n).isEmpty)/\True)))) d40)
def VE:Cx:=⟨[(9,.st)],[(33,Ue),(34,CSp.or Ji Zf)],38,[],0,[],[],[],[],false,[],[],[],[]⟩
def BC (hk:Int) (lw:List Int) (hd:Int) (rows:List Int) (ds:List (Int×Int×Int×Int×Bool)) (n:Int):List (Nat×LoopAnn):=[(0,⟨Unit,(List (List UInt8))×Int,[6,9,22,23],λe x=>[.lst 35,.lst 21,.val (.i .i64) n,.val (.i .i64) x.2],λe x=>[(35,.slot 6,.lst 9 .st x.1 (List.isEmpty x.1)),(21,.slot 9,.lst 9 .st (XR lw hd rows ds) false)]⟩)]
theorem Bo (d:(Int×List Int×Int×List Int)×(List (Int×Int×Int×Int×Bool))×Int):gwp (VE) (BC d.1.1 d.1.2.1 d.1.2.2.1 d.1.2.2.2 d.2.1 d.2.2) c8 0 (Y4 [.tmp 6,.tmp 7] (V9 d) (V6 d)) (Qq 38 (AL.can VS d))=XY d.1.1 d.1.2.1 d.1.2.2.1 d.1.2.2.2 d.2.1 d.2.2:=by kernel_rfl
abbrev Bn:Prop:=OkC Tryz.prog 8 Wo
theorem Bh (h:∀ (hk:Int) (lw:List Int) (hd:Int) (rows:List Int) (ds:List (Int×Int×Int×Int×Bool)) (n:Int),(lw.length<=110/\rows.length<=110/\ds.length=1)->XY hk lw hd rows ds n):OkC Tryz.prog 8 Wo :=
 Qu Z9z mixed (C:=VE) (V:=λ(d:(Int×List Int×Int×List Int)×(List (Int×Int×Int×Int×Bool))×Int)=>XY d.1.1 d.1.2.1 d.1.2.2.1 d.1.2.2.2 d.2.1 d.2.2) ⟨(.cons H6 (.cons (OkC.or XV Je) .nil)),XsOk.nil,ItsOk.nil,YlOk.nil,IysOk.nil,XfOk.nil⟩ (Bo) λd hp=>h d.1.1 d.1.2.1 d.1.2.2.1 d.1.2.2.2 d.2.1 d.2.2 hp
theorem V_:Bn:=Bh λhk lw hd rows ds n h=>by
 obtain⟨cJ,bJ,hl⟩:=h;unfold XY;(try delta lI gD sT I64 Q1 rg rb zD nS);refine⟨⟨cJ,bJ,by omega⟩,λh1=>?_,λh1=>?_⟩
 .have h1:Qs hk lw hd rows ds n≠0:=by simpa using h1
  have e:KN hk lw hd rows ds n=[]:=by unfold KN;rw[z6 h1]
  rw[e];exact(by and_intros<;>first|rfl|trivial|simp)
 .have h1:Qs hk lw hd rows ds n=0:=by simpa using h1
  have ef:KN hk lw hd rows ds n=Q92 lw hd rows ds n.toNat:=by unfold KN;rw[z7 h1]
  rw[h1,ef];clear ef;obtain⟨hw,hz,e_,dM⟩:=Hd h1;have hr:=(Im hw hz).1;obtain⟨_,_,_,_,f4,_⟩:=NR hw;obtain⟨N,rfl⟩:=zA (show 0<=n by omega);refine⟨⟨hw,cJ,bJ,hl,hz⟩,(),([],0),(by and_intros<;>first|rfl|trivial|simp),?_⟩;refine LoopP.count2 N (λk x=>x=(List.range k).map λi=>(XR lw hd rows ds).getD (i % (XR lw hd rows ds).length) []) rfl (λk x hk hx q hq=>?_);subst hx;dsimp only;rw[show Int.tmod (k:Int) ((XR lw hd rows ds).length:Int)=((k % (XR lw hd rows ds).length:Nat):Int) from rfl];simp only[ze,zM,wz,zw,List.length_nil];have ao:=xJ k (show (XR lw hd rows ds).length > 0 by omega);refine⟨λc=>?_,λc=>?_⟩
  .have c:k<N:=by simpa using c
   have hq:=hq _ c rfl;rw[List.range_succ,xd] at hq;refine⟨by omega,by omega,by omega,by omega,by rw[Qf];omega,_,?_,hq⟩;exact(by and_intros<;>first|rfl|trivial|simp)
  .have c:k=N:=by
    have:¬ k<N:=by simpa using c
    omega
   subst c;exact(by and_intros<;>first|rfl|trivial|simp)
def Dl:AL ((Int×List Int×Int×List Int)×(List (Int×Int×Int×Int×Bool))×Int):=(.cons (.agg (.cons (.k (.i .i64)) (.cons (.k (.list (.i .i64))) (.cons (.k (.i .i64)) (.one (.k (.list (.i .i64)))))))) (.cons (.k (.list (.pair (.i .i64) (.pair (.i .i64) (.pair (.i .i64) (.pair (.i .i64) .bo)))))) (.one (.k (.i .i64)))))
def Sg (d:(Int×List Int×Int×List Int)×(List (Int×Int×Int×Int×Bool))×Int):Prop:=d.1.2.1.length<=110/\d.1.2.2.2.length<=110/\d.2.1.length=1
def MY (d:(Int×List Int×Int×List Int)×(List (Int×Int×Int×Int×Bool))×Int):SV:=.tup [.lst 0,.val (.i .i64) (Qs d.1.1 d.1.2.1 d.1.2.2.1 d.1.2.2.2 d.2.1 d.2.2)]
def MI (d:(Int×List Int×Int×List Int)×(List (Int×Int×Int×Int×Bool))×Int):List OB:=[.lst 100 (.pair (.i .i64) (.pair (.i .i64) .bo)) (SY d.1.1 d.1.2.1 d.1.2.2.1 d.1.2.2.2 d.2.1 d.2.2) ((SY d.1.1 d.1.2.1 d.1.2.2.1 d.1.2.2.2 d.2.1 d.2.2).isEmpty)]
def NT:CSp:=Wt Dl Sg MY MI
abbrev J2 :=(True/\nS)
abbrev GZ :=((nS)/\(True/\True/\nS))
abbrev H8 :=(List (Int×Int×Int×Int×Bool))
def Ko (hk:Int) (lw:List Int) (hd:Int) (rows:List Int) (ds:List (Int×Int×Int×Int×Bool)) (n:Int):Prop :=
 (lw.length<=110/\rows.length<=110/\ds.length=1)/\((Qs hk lw hd rows ds n != (0:Int))=true ->
  ((True/\Qs hk lw hd rows ds n=Qs hk lw hd rows ds n/\nS)/\(((SY hk lw hd rows ds n)=[]/\(SY hk lw hd rows ds n).isEmpty=true)/\True))) /\
 ((Qs hk lw hd rows ds n != (0:Int))=false ->
  (lw.length<=110/\rows.length<=110)/\∀ w1:List Value,w1=w1/\∀ w2:LpD,∃ (e6:(List (List UInt8))×(List (List UInt8))×Int×Int×(List Int)×Int×(List Int)×H8×Int×Int×(List Int)×Int×(List Int)×Int×Int×Int×Int×(List Int)×Int×(List Int)×H8×Int×Int×Int×Int×Bool×Int×Int×(List Int)×Int×(List Int)×Int×Int×Int×LpD) (d60:Int×(List (Int×Int×Bool))),((True/\True/\True/\(lI (KN hk lw hd rows ds n))=e6.2.2.1/\(0:Int)=d60.1/\True)/\(J2/\((KN hk lw hd rows [] n)=e6.1/\(KN hk lw hd rows [] n).isEmpty=e6.1.isEmpty)/\((KN hk lw hd rows ds n)=e6.2.1/\(KN hk lw hd rows ds n).isEmpty=e6.2.1.isEmpty)/\((Q1 (Q1 e6)).2.2=w2/\((hk=e6.2.2.2.1/\lw=(rb e6).1/\hd=(rb e6).2.1/\rows=(rb e6).2.2.1/\nS)/\ds=(rb e6).2.2.2.1/\n=(rg e6).1/\True/\True/\True/\True/\Qs hk lw hd rows ds n=(rb (rg e6)).2.1/\True/\True/\Qs hk lw hd rows [] n=(rb (rg e6)).2.2.1/\True/\True/\(True/\Qs hk lw hd rows ds n=(rb (rg e6)).2.2.2.1/\nS)/\(hk=(Q1 e6).1/\lw=(Q1 e6).2.1/\hd=(Q1 e6).2.2.1/\rows=(Q1 e6).2.2.2.1/\nS)/\ds=(rb (Q1 e6)).1/\n=(rb (Q1 e6)).2.1/\(True/\Qs hk lw hd rows ds n=(rb (Q1 e6)).2.2.1/\nS)/\True/\Qs hk lw hd rows ds n=(rb (Q1 e6)).2.2.2.1/\Qs hk lw hd rows ds n=(rg (Q1 e6)).1/\(Qs hk lw hd rows ds n != (0:Int))=(rg (Q1 e6)).2.1/\True/\(True/\Qs hk lw hd rows [] n=(rg (Q1 e6)).2.2.1/\nS)/\(hk=(rg (Q1 e6)).2.2.2.1/\lw=(rb (rg (Q1 e6))).1/\hd=(rb (rg (Q1 e6))).2.1/\rows=(rb (rg (Q1 e6))).2.2.1/\nS)/\n=(rb (rg (Q1 e6))).2.2.2.1/\(True/\Qs hk lw hd rows [] n=(Q1 (Q1 e6)).1/\nS)/\True/\Qs hk lw hd rows [] n=(Q1 (Q1 e6)).2.1/\True/\True/\GZ/\True/\True/\True/\True/\True/\True/\True/\True/\True/\True/\True/\True/\True/\True/\True/\True/\nS))/\(hk=(rg e6).2.1/\lw=(rg e6).2.2.1/\hd=(rg e6).2.2.2.1/\rows=(rb (rg e6)).1/\nS)/\J2/\(d60.2=[]/\d60.2.isEmpty=true)/\J2/\J2/\True)) /\
  LoopP (λ(d6:Int×(List (Int×Int×Bool))) (q6:(Int×(List (Int×Int×Bool)))->Prop) =>
   ((decide (d6.1<e6.2.2.1))=true ->
    (0<=d6.1)/\(d6.1<e6.2.1.length)/\∃ (e9:(List (List UInt8))×Int×(List UInt8)×(List (List UInt8))×Int×Int×(List UInt8)×Int×(List Int)×Int×(List Int)×H8×Int×Int×(List Int)×Int×(List Int)×Int×Int×Int×Int×(List Int)×Int×(List Int)×H8×Int×Int×Int×Int×Bool×Int×Int×(List Int)×Int×(List Int)×Int×Int×Int×LpD) (d90:Nat×(List (Int×Int×Bool))),((True/\True/\d6.1=e9.2.1/\(gD e6.2.1 d6.1 [])=e9.2.2.1/\True/\e6.2.2.1=(rb e9).1/\d6.1=(rb e9).2.1/\True/\True)/\(J2/\(e6.1=e9.1/\e6.1.isEmpty=e9.1.isEmpty)/\(e6.2.1=e9.2.2.2.1/\e6.2.1.isEmpty=e9.2.2.2.1.isEmpty)/\((rb e9).2.2.1=(gD e6.2.1 d6.1 [])/\d90.1=0)/\((rb (Q1 (Q1 e9))).2.2=(Q1 (Q1 e6)).2.2/\((e6.2.2.2.1=(rb e9).2.2.2.1/\(rb e6).1=(rg e9).1/\(rb e6).2.1=(rg e9).2.1/\(rb e6).2.2.1=(rg e9).2.2.1/\nS)/\(rb e6).2.2.2.1=(rg e9).2.2.2.1/\(rg e6).1=(rb (rg e9)).1/\True/\True/\True/\True/\(rb (rg e6)).2.1=(Q1 e9).2.1/\True/\True/\(rb (rg e6)).2.2.1=(Q1 e9).2.2.1/\True/\True/\(True/\(rb (rg e6)).2.2.2.1=(Q1 e9).2.2.2.1/\nS)/\((Q1 e6).1=(rb (Q1 e9)).1/\(Q1 e6).2.1=(rb (Q1 e9)).2.1/\(Q1 e6).2.2.1=(rb (Q1 e9)).2.2.1/\(Q1 e6).2.2.2.1=(rb (Q1 e9)).2.2.2.1/\nS)/\(rb (Q1 e6)).1=(rg (Q1 e9)).1/\(rb (Q1 e6)).2.1=(rg (Q1 e9)).2.1/\(True/\(rb (Q1 e6)).2.2.1=(rg (Q1 e9)).2.2.1/\nS)/\True/\(rb (Q1 e6)).2.2.2.1=(rg (Q1 e9)).2.2.2.1/\(rg (Q1 e6)).1=(rb (rg (Q1 e9))).1/\(rg (Q1 e6)).2.1=(rb (rg (Q1 e9))).2.1/\True/\(True/\(rg (Q1 e6)).2.2.1=(rb (rg (Q1 e9))).2.2.1/\nS)/\((rg (Q1 e6)).2.2.2.1=(rb (rg (Q1 e9))).2.2.2.1/\(rb (rg (Q1 e6))).1=(Q1 (Q1 e9)).1/\(rb (rg (Q1 e6))).2.1=(Q1 (Q1 e9)).2.1/\(rb (rg (Q1 e6))).2.2.1=(Q1 (Q1 e9)).2.2.1/\nS)/\(rb (rg (Q1 e6))).2.2.2.1=(Q1 (Q1 e9)).2.2.2.1/\(True/\(Q1 (Q1 e6)).1=(rb (Q1 (Q1 e9))).1/\nS)/\True/\(Q1 (Q1 e6)).2.1=(rb (Q1 (Q1 e9))).2.1/\True/\True/\GZ/\True/\True/\True/\True/\True/\True/\True/\True/\True/\True/\True/\True/\True/\True/\True/\True/\nS))/\((rg e6).2.1=(rb (rg e9)).2.1/\(rg e6).2.2.1=(rb (rg e9)).2.2.1/\(rg e6).2.2.2.1=(rb (rg e9)).2.2.2.1/\(rb (rg e6)).1=(Q1 e9).1/\nS)/\J2/\(d6.2=d90.2/\d6.2.isEmpty=d90.2.isEmpty)/\J2/\J2/\True)) /\
    LoopP (λ(d9:Nat×(List (Int×Int×Bool))) (q9:(Nat×(List (Int×Int×Bool)))->Prop) =>
     ((d9.1<(rb e9).2.2.1.length ->
      (UInt8.toNat (List.getD (rb e9).2.2.1 d9.1 0))<128 /\
      (0<=((d9.1:Nat):Int))/\(((d9.1:Nat):Int)<e9.2.2.1.length)/\(0<=e9.2.1)/\(e9.2.1<e9.1.length)/\(0<=((d9.1:Nat):Int))/\(((d9.1:Nat):Int)<(List.length (gD e9.1 e9.2.1 [])))/\(((((UInt8.toNat (gD e9.2.2.1 ((d9.1:Nat):Int) 0):Nat):Int) != ((UInt8.toNat (gD (gD e9.1 e9.2.1 []) ((d9.1:Nat):Int) 0):Nat):Int))=true ->
       (rb (Q1 (Q1 e9))).2.2=w2/\∀ qT:List Value,(0<=e9.2.1)/\(e9.2.1<e9.2.2.2.1.length)/\(0<=((d9.1:Nat):Int))/\(((d9.1:Nat):Int)<(List.length (gD e9.2.2.2.1 e9.2.1 [])))/\((d9.2.length+(List.length [(e9.2.1,(((d9.1:Nat):Int),(((UInt8.toNat (gD (gD e9.2.2.2.1 e9.2.1 []) ((d9.1:Nat):Int) 0):Nat):Int)==(120:Int))))]))*24<=70368744177664)/\qT=qT/\(rb (Q1 (Q1 e9))).2.2=w2/\(∃ d11:Nat×(List (Int×Int×Bool)),((True/\True/\e9.2.1=e9.2.1/\e9.2.2.1=e9.2.2.1/\True/\(rb e9).1=(rb e9).1/\(rb e9).2.1=(rb e9).2.1/\True/\True)/\(J2/\(e9.1=e9.1/\e9.1.isEmpty=e9.1.isEmpty)/\(e9.2.2.2.1=e9.2.2.2.1/\e9.2.2.2.1.isEmpty=e9.2.2.2.1.isEmpty)/\((rb e9).2.2.1=(rb e9).2.2.1/\d11.1=(d9.1+1))/\((rb (Q1 (Q1 e9))).2.2=(rb (Q1 (Q1 e9))).2.2/\(((rb e9).2.2.2.1=(rb e9).2.2.2.1/\(rg e9).1=(rg e9).1/\(rg e9).2.1=(rg e9).2.1/\(rg e9).2.2.1=(rg e9).2.2.1/\nS)/\(rg e9).2.2.2.1=(rg e9).2.2.2.1/\(rb (rg e9)).1=(rb (rg e9)).1/\True/\True/\True/\True/\(Q1 e9).2.1=(Q1 e9).2.1/\True/\True/\(Q1 e9).2.2.1=(Q1 e9).2.2.1/\True/\True/\(True/\(Q1 e9).2.2.2.1=(Q1 e9).2.2.2.1/\nS)/\((rb (Q1 e9)).1=(rb (Q1 e9)).1/\(rb (Q1 e9)).2.1=(rb (Q1 e9)).2.1/\(rb (Q1 e9)).2.2.1=(rb (Q1 e9)).2.2.1/\(rb (Q1 e9)).2.2.2.1=(rb (Q1 e9)).2.2.2.1/\nS)/\(rg (Q1 e9)).1=(rg (Q1 e9)).1/\(rg (Q1 e9)).2.1=(rg (Q1 e9)).2.1/\(True/\(rg (Q1 e9)).2.2.1=(rg (Q1 e9)).2.2.1/\nS)/\True/\(rg (Q1 e9)).2.2.2.1=(rg (Q1 e9)).2.2.2.1/\(rb (rg (Q1 e9))).1=(rb (rg (Q1 e9))).1/\(rb (rg (Q1 e9))).2.1=(rb (rg (Q1 e9))).2.1/\True/\(True/\(rb (rg (Q1 e9))).2.2.1=(rb (rg (Q1 e9))).2.2.1/\nS)/\((rb (rg (Q1 e9))).2.2.2.1=(rb (rg (Q1 e9))).2.2.2.1/\(Q1 (Q1 e9)).1=(Q1 (Q1 e9)).1/\(Q1 (Q1 e9)).2.1=(Q1 (Q1 e9)).2.1/\(Q1 (Q1 e9)).2.2.1=(Q1 (Q1 e9)).2.2.1/\nS)/\(Q1 (Q1 e9)).2.2.2.1=(Q1 (Q1 e9)).2.2.2.1/\(True/\(rb (Q1 (Q1 e9))).1=(rb (Q1 (Q1 e9))).1/\nS)/\True/\(rb (Q1 (Q1 e9))).2.1=(rb (Q1 (Q1 e9))).2.1/\True/\True/\GZ/\True/\True/\True/\True/\True/\True/\True/\True/\True/\True/\True/\True/\True/\True/\True/\True/\nS))/\((rb (rg e9)).2.1=(rb (rg e9)).2.1/\(rb (rg e9)).2.2.1=(rb (rg e9)).2.2.1/\(rb (rg e9)).2.2.2.1=(rb (rg e9)).2.2.2.1/\(Q1 e9).1=(Q1 e9).1/\nS)/\J2/\((d9.2++[(e9.2.1,(((d9.1:Nat):Int),(((UInt8.toNat (gD (gD e9.2.2.2.1 e9.2.1 []) ((d9.1:Nat):Int) 0):Nat):Int)==(120:Int))))])=d11.2/\false=d11.2.isEmpty)/\J2/\J2/\True))/\q9 d11)) /\
      ((((UInt8.toNat (gD e9.2.2.1 ((d9.1:Nat):Int) 0):Nat):Int) != ((UInt8.toNat (gD (gD e9.1 e9.2.1 []) ((d9.1:Nat):Int) 0):Nat):Int))=false ->
       (∃ d12:Nat×(List (Int×Int×Bool)),((True/\True/\e9.2.1=e9.2.1/\e9.2.2.1=e9.2.2.1/\True/\(rb e9).1=(rb e9).1/\(rb e9).2.1=(rb e9).2.1/\True/\True)/\(J2/\(e9.1=e9.1/\e9.1.isEmpty=e9.1.isEmpty)/\(e9.2.2.2.1=e9.2.2.2.1/\e9.2.2.2.1.isEmpty=e9.2.2.2.1.isEmpty)/\((rb e9).2.2.1=(rb e9).2.2.1/\d12.1=(d9.1+1))/\((rb (Q1 (Q1 e9))).2.2=(rb (Q1 (Q1 e9))).2.2/\(((rb e9).2.2.2.1=(rb e9).2.2.2.1/\(rg e9).1=(rg e9).1/\(rg e9).2.1=(rg e9).2.1/\(rg e9).2.2.1=(rg e9).2.2.1/\nS)/\(rg e9).2.2.2.1=(rg e9).2.2.2.1/\(rb (rg e9)).1=(rb (rg e9)).1/\True/\True/\True/\True/\(Q1 e9).2.1=(Q1 e9).2.1/\True/\True/\(Q1 e9).2.2.1=(Q1 e9).2.2.1/\True/\True/\(True/\(Q1 e9).2.2.2.1=(Q1 e9).2.2.2.1/\nS)/\((rb (Q1 e9)).1=(rb (Q1 e9)).1/\(rb (Q1 e9)).2.1=(rb (Q1 e9)).2.1/\(rb (Q1 e9)).2.2.1=(rb (Q1 e9)).2.2.1/\(rb (Q1 e9)).2.2.2.1=(rb (Q1 e9)).2.2.2.1/\nS)/\(rg (Q1 e9)).1=(rg (Q1 e9)).1/\(rg (Q1 e9)).2.1=(rg (Q1 e9)).2.1/\(True/\(rg (Q1 e9)).2.2.1=(rg (Q1 e9)).2.2.1/\nS)/\True/\(rg (Q1 e9)).2.2.2.1=(rg (Q1 e9)).2.2.2.1/\(rb (rg (Q1 e9))).1=(rb (rg (Q1 e9))).1/\(rb (rg (Q1 e9))).2.1=(rb (rg (Q1 e9))).2.1/\True/\(True/\(rb (rg (Q1 e9))).2.2.1=(rb (rg (Q1 e9))).2.2.1/\nS)/\((rb (rg (Q1 e9))).2.2.2.1=(rb (rg (Q1 e9))).2.2.2.1/\(Q1 (Q1 e9)).1=(Q1 (Q1 e9)).1/\(Q1 (Q1 e9)).2.1=(Q1 (Q1 e9)).2.1/\(Q1 (Q1 e9)).2.2.1=(Q1 (Q1 e9)).2.2.1/\nS)/\(Q1 (Q1 e9)).2.2.2.1=(Q1 (Q1 e9)).2.2.2.1/\(True/\(rb (Q1 (Q1 e9))).1=(rb (Q1 (Q1 e9))).1/\nS)/\True/\(rb (Q1 (Q1 e9))).2.1=(rb (Q1 (Q1 e9))).2.1/\True/\True/\GZ/\True/\True/\True/\True/\True/\True/\True/\True/\True/\True/\True/\True/\True/\True/\True/\True/\nS))/\((rb (rg e9)).2.1=(rb (rg e9)).2.1/\(rb (rg e9)).2.2.1=(rb (rg e9)).2.2.1/\(rb (rg e9)).2.2.2.1=(rb (rg e9)).2.2.2.1/\(Q1 e9).1=(Q1 e9).1/\nS)/\J2/\(d9.2=d12.2/\d9.2.isEmpty=d12.2.isEmpty)/\J2/\J2/\True))/\q9 d12)))) /\
     ((rb e9).2.2.1.length<=d9.1 ->
      (I64 ((rb e9).2.1+(1:Int)))/\(∃ d13:Int×(List (Int×Int×Bool)),((True/\True/\True/\(rb e9).1=e6.2.2.1/\((rb e9).2.1+(1:Int))=d13.1/\True)/\(J2/\(e9.1=e6.1/\e9.1.isEmpty=e6.1.isEmpty)/\(e9.2.2.2.1=e6.2.1/\e9.2.2.2.1.isEmpty=e6.2.1.isEmpty)/\((Q1 (Q1 e6)).2.2=(rb (Q1 (Q1 e9))).2.2/\(((rb e9).2.2.2.1=e6.2.2.2.1/\(rg e9).1=(rb e6).1/\(rg e9).2.1=(rb e6).2.1/\(rg e9).2.2.1=(rb e6).2.2.1/\nS)/\(rg e9).2.2.2.1=(rb e6).2.2.2.1/\(rb (rg e9)).1=(rg e6).1/\True/\True/\True/\True/\(Q1 e9).2.1=(rb (rg e6)).2.1/\True/\True/\(Q1 e9).2.2.1=(rb (rg e6)).2.2.1/\True/\True/\(True/\(Q1 e9).2.2.2.1=(rb (rg e6)).2.2.2.1/\nS)/\((rb (Q1 e9)).1=(Q1 e6).1/\(rb (Q1 e9)).2.1=(Q1 e6).2.1/\(rb (Q1 e9)).2.2.1=(Q1 e6).2.2.1/\(rb (Q1 e9)).2.2.2.1=(Q1 e6).2.2.2.1/\nS)/\(rg (Q1 e9)).1=(rb (Q1 e6)).1/\(rg (Q1 e9)).2.1=(rb (Q1 e6)).2.1/\(True/\(rg (Q1 e9)).2.2.1=(rb (Q1 e6)).2.2.1/\nS)/\True/\(rg (Q1 e9)).2.2.2.1=(rb (Q1 e6)).2.2.2.1/\(rb (rg (Q1 e9))).1=(rg (Q1 e6)).1/\(rb (rg (Q1 e9))).2.1=(rg (Q1 e6)).2.1/\True/\(True/\(rb (rg (Q1 e9))).2.2.1=(rg (Q1 e6)).2.2.1/\nS)/\((rb (rg (Q1 e9))).2.2.2.1=(rg (Q1 e6)).2.2.2.1/\(Q1 (Q1 e9)).1=(rb (rg (Q1 e6))).1/\(Q1 (Q1 e9)).2.1=(rb (rg (Q1 e6))).2.1/\(Q1 (Q1 e9)).2.2.1=(rb (rg (Q1 e6))).2.2.1/\nS)/\(Q1 (Q1 e9)).2.2.2.1=(rb (rg (Q1 e6))).2.2.2.1/\(True/\(rb (Q1 (Q1 e9))).1=(Q1 (Q1 e6)).1/\nS)/\True/\(rb (Q1 (Q1 e9))).2.1=(Q1 (Q1 e6)).2.1/\True/\True/\GZ/\True/\True/\True/\True/\True/\True/\True/\True/\True/\True/\True/\True/\True/\True/\True/\True/\nS))/\((rb (rg e9)).2.1=(rg e6).2.1/\(rb (rg e9)).2.2.1=(rg e6).2.2.1/\(rb (rg e9)).2.2.2.1=(rg e6).2.2.2.1/\(Q1 e9).1=(rb (rg e6)).1/\nS)/\J2/\(d9.2=d13.2/\d9.2.isEmpty=d13.2.isEmpty)/\J2/\J2/\True))/\q6 d13)))) d90) /\
   ((decide (d6.1<e6.2.2.1))=false ->
    (Q1 (Q1 e6)).2.2=w2/\((True/\(0:Int)=Qs hk lw hd rows ds n/\nS)/\((d6.2=(SY hk lw hd rows ds n)/\d6.2.isEmpty=(SY hk lw hd rows ds n).isEmpty)/\True)))) d60)
def WA:Cx:=⟨[],[],6,[],0,[],[],[],[],false,[],[],[],[]⟩
def WG:List (Nat×LoopAnn):=[]
def W7:Cx:=⟨[],[],37,[3000017,3000035],0,[],[],[],[],false,[],[],[17,29,35],[]⟩
def W8:List (Nat×LoopAnn):=[(0,⟨(List (List UInt8))×(List (List UInt8))×Int×Int×(List Int)×Int×(List Int)×(List (Int×Int×Int×Int×Bool))×Int×Int×(List Int)×Int×(List Int)×Int×Int×Int×Int×(List Int)×Int×(List Int)×(List (Int×Int×Int×Int×Bool))×Int×Int×Int×Int×Bool×Int×Int×(List Int)×Int×(List Int)×Int×Int×Int×LpD,Int×(List (Int×Int×Bool)),[0,2,7,8,9],λe x=>[.dd 2000000 .yv,.box 3200003 0,.lst 17,.val (.i .i64) e.2.2.1,.val (.i .i64) x.1],λe x=>[(3200003,.slot 2,.cells [.lst 26] (some 41)),(26,.cell 3200003 0,.lst 9 .st e.1 (List.isEmpty e.1)),(17,.slot 7,.lst 9 .st e.2.1 (List.isEmpty e.2.1)),(2000000,.key 2000000,.lpf [.agg [.val (.i .i64) e.2.2.2.1,.val (.list (.i .i64)) (rb e).1,.val (.i .i64) (rb e).2.1,.val (.list (.i .i64)) (rb e).2.2.1],.val (.list (.pair (.i .i64) (.pair (.i .i64) (.pair (.i .i64) (.pair (.i .i64) .bo))))) (rb e).2.2.2.1,.val (.i .i64) (rg e).1,.box 3 0,.any,.any,.box 6 0,.val (.i .i64) (rb (rg e)).2.1,.box 8 0,.lst 26,.val (.i .i64) (rb (rg e)).2.2.1,.any,.any,.tup [.lst 17,.val (.i .i64) (rb (rg e)).2.2.2.1],.agg [.val (.i .i64) (Q1 e).1,.val (.list (.i .i64)) (Q1 e).2.1,.val (.i .i64) (Q1 e).2.2.1,.val (.list (.i .i64)) (Q1 e).2.2.2.1],.val (.list (.pair (.i .i64) (.pair (.i .i64) (.pair (.i .i64) (.pair (.i .i64) .bo))))) (rb (Q1 e)).1,.val (.i .i64) (rb (Q1 e)).2.1,.tup [.lst 17,.val (.i .i64) (rb (Q1 e)).2.2.1],.lst 17,.val (.i .i64) (rb (Q1 e)).2.2.2.1,.val (.i .i64) (rg (Q1 e)).1,.val .bo (rg (Q1 e)).2.1,.any,.tup [.lst 26,.val (.i .i64) (rg (Q1 e)).2.2.1],.agg [.val (.i .i64) (rg (Q1 e)).2.2.2.1,.val (.list (.i .i64)) (rb (rg (Q1 e))).1,.val (.i .i64) (rb (rg (Q1 e))).2.1,.val (.list (.i .i64)) (rb (rg (Q1 e))).2.2.1],.val (.i .i64) (rb (rg (Q1 e))).2.2.2.1,.tup [.lst 26,.val (.i .i64) (Q1 (Q1 e)).1],.lst 26,.val (.i .i64) (Q1 (Q1 e)).2.1,.lst 17,.lst 26,.fn 88 [] [.box 3200002 0,.box 3200003 0],.any,.any,.any,.any,.any,.any,.any,.any,.any,.any,.any,.any,.any,.any,.any,.any] (Q1 (Q1 e)).2.2 .rdy),(3,.key 3,.cells [.val (.i .i64) (rg e).2.1,.val (.list (.i .i64)) (rg e).2.2.1,.val (.i .i64) (rg e).2.2.2.1,.val (.list (.i .i64)) (rb (rg e)).1] (some 30)),(6,.key 6,.cells [.lst 46] (some 47)),(46,.cell 6 0,.lst 100 (.pair (.i .i64) (.pair (.i .i64) .bo)) x.2 (List.isEmpty x.2)),(8,.key 8,.cells [.lst 17] (some 41)),(3200002,.key 3200002,.cells [.lst 17] (some 41))]⟩),
 (2,⟨(List (List UInt8))×Int×(List UInt8)×(List (List UInt8))×Int×Int×(List UInt8)×Int×(List Int)×Int×(List Int)×(List (Int×Int×Int×Int×Bool))×Int×Int×(List Int)×Int×(List Int)×Int×Int×Int×Int×(List Int)×Int×(List Int)×(List (Int×Int×Int×Int×Bool))×Int×Int×Int×Int×Bool×Int×Int×(List Int)×Int×(List Int)×Int×Int×Int×LpD,Nat×(List (Int×Int×Bool)),[0,2,4,5,7,8,9,15],λe x=>[.dd 2000000 .yv,.box 3200003 0,.val (.i .i64) e.2.1,.val .st e.2.2.1,.lst 17,.val (.i .i64) (rb e).1,.val (.i .i64) (rb e).2.1,.box 200000100015 0],λe x=>[(3200003,.slot 2,.cells [.lst 26] (some 41)),(26,.cell 3200003 0,.lst 9 .st e.1 (List.isEmpty e.1)),(17,.slot 7,.lst 9 .st e.2.2.2.1 (List.isEmpty e.2.2.2.1)),(200000100015,.slot 15,.siter (rb e).2.2.1 x.1),(2000000,.key 2000000,.lpf [.agg [.val (.i .i64) (rb e).2.2.2.1,.val (.list (.i .i64)) (rg e).1,.val (.i .i64) (rg e).2.1,.val (.list (.i .i64)) (rg e).2.2.1],.val (.list (.pair (.i .i64) (.pair (.i .i64) (.pair (.i .i64) (.pair (.i .i64) .bo))))) (rg e).2.2.2.1,.val (.i .i64) (rb (rg e)).1,.box 3 0,.any,.any,.box 6 0,.val (.i .i64) (Q1 e).2.1,.box 8 0,.lst 26,.val (.i .i64) (Q1 e).2.2.1,.any,.any,.tup [.lst 17,.val (.i .i64) (Q1 e).2.2.2.1],.agg [.val (.i .i64) (rb (Q1 e)).1,.val (.list (.i .i64)) (rb (Q1 e)).2.1,.val (.i .i64) (rb (Q1 e)).2.2.1,.val (.list (.i .i64)) (rb (Q1 e)).2.2.2.1],.val (.list (.pair (.i .i64) (.pair (.i .i64) (.pair (.i .i64) (.pair (.i .i64) .bo))))) (rg (Q1 e)).1,.val (.i .i64) (rg (Q1 e)).2.1,.tup [.lst 17,.val (.i .i64) (rg (Q1 e)).2.2.1],.lst 17,.val (.i .i64) (rg (Q1 e)).2.2.2.1,.val (.i .i64) (rb (rg (Q1 e))).1,.val .bo (rb (rg (Q1 e))).2.1,.any,.tup [.lst 26,.val (.i .i64) (rb (rg (Q1 e))).2.2.1],.agg [.val (.i .i64) (rb (rg (Q1 e))).2.2.2.1,.val (.list (.i .i64)) (Q1 (Q1 e)).1,.val (.i .i64) (Q1 (Q1 e)).2.1,.val (.list (.i .i64)) (Q1 (Q1 e)).2.2.1],.val (.i .i64) (Q1 (Q1 e)).2.2.2.1,.tup [.lst 26,.val (.i .i64) (rb (Q1 (Q1 e))).1],.lst 26,.val (.i .i64) (rb (Q1 (Q1 e))).2.1,.lst 17,.lst 26,.fn 88 [] [.box 3200002 0,.box 3200003 0],.any,.any,.any,.any,.any,.any,.any,.any,.any,.any,.any,.any,.any,.any,.any,.any] (rb (Q1 (Q1 e))).2.2 .rdy),(3,.key 3,.cells [.val (.i .i64) (rb (rg e)).2.1,.val (.list (.i .i64)) (rb (rg e)).2.2.1,.val (.i .i64) (rb (rg e)).2.2.2.1,.val (.list (.i .i64)) (Q1 e).1] (some 30)),(6,.key 6,.cells [.lst 46] (some 47)),(46,.cell 6 0,.lst 100 (.pair (.i .i64) (.pair (.i .i64) .bo)) x.2 (List.isEmpty x.2)),(8,.key 8,.cells [.lst 17] (some 41)),(3200002,.key 3200002,.cells [.lst 17] (some 41))]⟩)]
def DT:Cx:=⟨[(100,(.pair (.i .i64) (.pair (.i .i64) .bo)))],[(8,CSp.or Vp Wo)],48,[],0,[(38,FJ WA (λ_=>WG) c38 [.tmp 4] 6)],[],[],[],false,[],[(88,Z7w W7 W8 c88 37)],[],[]⟩
def CZ (hk:Int) (lw:List Int) (hd:Int) (rows:List Int) (ds:List (Int×Int×Int×Int×Bool)) (n:Int):List (Nat×LoopAnn):=[]
theorem CW (d:(Int×List Int×Int×List Int)×(List (Int×Int×Int×Int×Bool))×Int):gwp (DT) (CZ d.1.1 d.1.2.1 d.1.2.2.1 d.1.2.2.2 d.2.1 d.2.2) c11 0 (Y4 [.cell 6 false 1,.tmp 7] (MY d) (MI d)) (Qq 48 (AL.can Dl d))=Ko d.1.1 d.1.2.1 d.1.2.2.1 d.1.2.2.2 d.2.1 d.2.2:=by kernel_rfl
abbrev CG:Prop:=OkC Tryz.prog 11 NT
theorem LS (h:∀ (hk:Int) (lw:List Int) (hd:Int) (rows:List Int) (ds:List (Int×Int×Int×Int×Bool)) (n:Int),(lw.length<=110/\rows.length<=110/\ds.length=1)->Ko hk lw hd rows ds n):OkC Tryz.prog 11 NT :=
 Qu Z3d mixed (C:=DT) (V:=λ(d:(Int×List Int×Int×List Int)×(List (Int×Int×Int×Int×Bool))×Int)=>Ko d.1.1 d.1.2.1 d.1.2.2.1 d.1.2.2.2 d.2.1 d.2.2) ⟨(.cons (OkC.or DY V_) .nil),(XsOk.cons (WN Z5k mixed (C:=WA) ⟨.nil,XsOk.nil,ItsOk.nil,YlOk.nil,IysOk.nil,XfOk.nil⟩ (λ_=>WG)) XsOk.nil),ItsOk.nil,YlOk.nil,(IysOk.cons (Q0m Z6z mixed (C:=W7) ⟨.nil,XsOk.nil,ItsOk.nil,YlOk.nil,IysOk.nil,XfOk.nil⟩ W8) IysOk.nil),XfOk.nil⟩ (CW) λd hp=>h d.1.1 d.1.2.1 d.1.2.2.1 d.1.2.2.2 d.2.1 d.2.2 hp
theorem A7:CG:=LS λhk lw hd rows ds n h=>by
 obtain⟨cJ,bJ,hl⟩:=h;unfold Ko;(try delta J2 GZ H8);(try delta lI gD sT I64 Q1 rg rb zD nS);refine⟨⟨cJ,bJ,hl⟩,λh1=>?_,λh1=>⟨⟨cJ,bJ⟩,λw1=>⟨rfl,λw2=>?_⟩⟩⟩
 .have h1:Qs hk lw hd rows ds n≠0:=by simpa using h1
  have e:SY hk lw hd rows ds n=[]:=by unfold SY;rw[z6 h1]
  rw[e];exact(by and_intros<;>first|rfl|trivial|simp)
 .have h1:Qs hk lw hd rows ds n=0:=by simpa using h1
  have h0:=OZ h1;obtain⟨hw,hz,e_,dM⟩:=Hd h1;obtain⟨N,rfl⟩:=zA (show 0<=n by omega);obtain⟨a1,a2⟩:=Z05 h1;obtain⟨b1,b2⟩:=Z05 h0;have ef:SY hk lw hd rows ds (N:Int)=Z2t (KN hk lw hd rows ds (N:Int)) (KN hk lw hd rows [] (N:Int)):=by unfold SY KN;rw[z7 h1,z7 h1,z7 h0]
  rw[h1,h0,ef];clear ef;generalize KN hk lw hd rows ds (N:Int)=A at *
  generalize KN hk lw hd rows [] (N:Int)=B at *
  rw[ze] at a1 b1;refine⟨(B,A,(A.length:Int),hk,lw,hd,rows,ds,(N:Int),hk,lw,hd,rows,0,0,0,hk,lw,hd,rows,ds,(N:Int),0,0,0,((0:Int) != 0),0,hk,lw,hd,rows,(N:Int),0,0,w2),(0,[]),(by and_intros<;>first|rfl|trivial|simp),?_⟩;dsimp only;have hA:∀ i,i<N->(A.getD i []).length=lw.length/\∀ b∈A.getD i [],b=46\/b=120:=λi hi=>by rw[Qc (by omega)];exact a2 _ (zl _)
  have hB:∀ i,i<N->(B.getD i []).length=lw.length:=λi hi=>by rw[Qc (by omega)];exact(b2 _ (zl _)).1
  refine LoopP.count1 N (λk x=>x=Hf A B k) rfl (λk x hkN hx q hq=>?_);subst hx;dsimp only;simp only[ze];refine⟨λc=>?_,λc=>?_⟩
  .have c:k<N:=by
    have:(k:Int)<A.length:=by simpa using c
    omega
   have v8:=I9 A B a2 k (by omega);have hq:=hq _ c rfl;rw[AF] at hq;obtain⟨v9,vd⟩:=hA k c;have v_:=hB k c;have pK:lw.length*k<=110*120:=Nat.mul_le_mul cJ (by omega);generalize Hf A B k=L at *
   refine⟨by omega,by omega,(B,(k:Int),A.getD k [],A,(A.length:Int),(k:Int),A.getD k [],hk,lw,hd,rows,ds,(N:Int),hk,lw,hd,rows,0,0,0,hk,lw,hd,rows,ds,(N:Int),0,0,0,((0:Int) != 0),0,hk,lw,hd,rows,(N:Int),0,0,w2),(0,L),(by and_intros<;>first|rfl|trivial|simp),?_⟩;dsimp only;simp only[ze];generalize A.getD k []=S at *
   generalize B.getD k []=T at *
   refine⟨λd=>d.1<=S.length/\d.2=L++IU k S T d.1,λd=>S.length-d.1,⟨by simp,by simp[IU]⟩,?_⟩;rintro⟨p,x⟩ ⟨hp,hx⟩;dsimp only at hp hx |-;have wa:=FM k S T p;refine⟨λc2=>?_,λc2=>?_⟩
   .have oY:=Q48 k S T p;rw[Z3l,Q4o];have wb:x.length<=20000:=by rw[hx,zk];omega
    have hb:(S.getD p 0).toNat<128:=by rw[Qc c2];rcases vd _ (zl c2) with e|e<;>rw[e]<;>decide
    refine⟨hb,by omega,by omega,by omega,by omega,by omega,by omega,λaP=>?_,λaP=>?_⟩
    .rw[z7 aP] at oY;refine⟨trivial,λqT=>⟨by omega,by omega,by omega,by omega,by simp only[zw,List.length_nil];omega,trivial,trivial,(p+1,x++[((k:Int),((p:Int),S.getD p 0==120))]),(by and_intros<;>first|rfl|trivial|simp),⟨⟨by dsimp only;omega,?_⟩,by dsimp only;omega⟩⟩⟩;dsimp only;rw[oY,hx,zJ]
    .rw[z6 (by rw[aP];simp),x7] at oY;exact⟨(p+1,x),(by and_intros<;>first|rfl|trivial|simp),⟨by dsimp only;omega,by dsimp only;rw[oY,hx]⟩,by dsimp only;omega⟩
   .have nc:p=S.length:=by omega
    rw[<-nc,<-hx] at hq;exact⟨by rw[Qf];omega,((k:Int)+1,x),(by and_intros<;>first|rfl|trivial|simp),hq⟩
  .have c:k=N:=by
    have:¬ (k:Int)<A.length:=by simpa using c
    omega
   have e:Hf A B k=Z2t A B:=by unfold Z2t;rw[c,a1];rfl
   rw[e];exact(by and_intros<;>first|rfl|trivial|simp)
abbrev Sgt:=Int×Int×Bool
def Ot (cl:List (List UInt8)) (s:Sgt):Bool:=((cl.getD (s.1.toNat % cl.length) []).getD s.2.1.toNat 0==120)==s.2.2
def Q2r (lw:List Int) (s:Sgt):Bool:=inI s.1 0 119&&inI s.2.1 0 (lw.length-1)
def dmC (hd n:Nat):List Dmg:=(List.range n).map λ(i:Nat)=>((1:Int),(((i / hd:Nat):Int),(((i % hd:Nat):Int),((0:Int),false))))
def dmN (n:Nat):List Dmg:=(List.range n).flatMap λ(h:Nat)=>[((2:Int),((0:Int),((h:Int),((0:Int),false)))),((2:Int),((0:Int),((h:Int),((0:Int),true))))]
def dmP (k:Int) (n:Nat):List Dmg:=(List.range n).map λ(p:Nat)=>(k,((p:Int),((0:Int),((0:Int),false))))
def dmT (n:Nat):List Dmg:=(List.range n).map λ(w:Nat)=>((5:Int),((0:Int),((0:Int),((w:Int),false))))
def dmA (hd:Int) (rows lw:List Int):List Dmg:=dmC hd.toNat (rows.length*hd.toNat)++dmN hd.toNat++dmP 3 rows.length++dmP 4 rows.length++dmT lw.length
def Yb (hk:Int) (lw:List Int) (hd:Int) (rows:List Int) (ss:List Sgt):Int:=if Q6 hk lw hd rows≠0 then Q6 hk lw hd rows else if 60<ss.length then 5 else if ss.any (λs=>!Q2r lw s) then 2 else 0
def MA (lw:List Int) (hd:Int) (rows:List Int) (ss:List Sgt) (d:Dmg):Bool:=!(XR lw hd rows [d]==XR lw hd rows [])&&ss.all (Ot (XR lw hd rows [d]))
def TH (hk:Int) (lw:List Int) (hd:Int) (rows:List Int) (ss:List Sgt):List Dmg:=if Yb hk lw hd rows ss=0 then (dmA hd rows lw).filter (MA lw hd rows ss) else []
def Ou (hk:Int) (lw:List Int) (hd:Int) (rows:List Int) (ss:List Sgt):Bool:=if Yb hk lw hd rows ss=0 then ss.all (Ot (XR lw hd rows [])) else false
theorem Q8b (hd n:Nat):dmC hd (n+1)=dmC hd n++[((1:Int),(((n / hd:Nat):Int),(((n % hd:Nat):Int),((0:Int),false))))]:=by unfold dmC;rw[List.range_succ,xd];rfl
theorem Q1j (n:Nat):dmN (n+1)=dmN n++[((2:Int),((0:Int),((n:Int),((0:Int),false)))),((2:Int),((0:Int),((n:Int),((0:Int),true))))]:=by unfold dmN;rw[List.range_succ,List.flatMap_append];simp only[List.flatMap_cons,List.flatMap_nil,x7]
theorem Q20 (k:Int) (n:Nat):dmP k (n+1)=dmP k n++[(k,((n:Int),((0:Int),((0:Int),false))))]:=by unfold dmP;rw[List.range_succ,xd];rfl
theorem Q8m (n:Nat):dmT (n+1)=dmT n++[((5:Int),((0:Int),((0:Int),((n:Int),false))))]:=by unfold dmT;rw[List.range_succ,xd];rfl
theorem Q05 (hd n:Nat):(dmC hd n).length=n:=by simp[dmC]
theorem E8:∀ n:Nat,(dmN n).length=2*n
 |0=>by simp[dmN]
 |n+1=>by rw[Q1j,zk,E8 n];simp;omega
theorem PV (k:Int) (n:Nat):(dmP k n).length=n:=by simp[dmP]
theorem ON (n:Nat):(dmT n).length=n:=by simp[dmT]
theorem Z3c {hd:Int}{rows lw:List Int}(h1:1<=hd) (h2:1<=rows.length) (h3:1<=lw.length):∀ d∈dmA hd rows lw,BK hd rows lw d=true:=by
 have aR:∀ (x a b:Int),a<=x->x<=b->inI x a b=true:=λx a b h4 h5=>by unfold inI;rw[xe h4,xe h5];rfl
 have key:∀ (k p h w:Int) (u:Bool),(inI k 1 5&&(if k=1 then w==0&&!u else if k=2 then p==0&&w==0 else if k=5 then p==0&&h==0&&!u else h==0&&w==0&&!u))=true->0<=p->p<rows.length->0<=h->h<hd->0<=w->w<lw.length->BK hd rows lw (k,(p,(h,(w,u))))=true:=λk p h w u e a1 a2 a3 a4 a5 a6=>by unfold BK;dsimp only;rw[e,aR p 0 _ a1 (by omega),aR h 0 _ a3 (by omega),aR w 0 _ a5 (by omega)];rfl
 intro d dJ;simp only[dmA,xj] at dJ;rcases dJ with (((dJ|dJ)|dJ)|dJ)|dJ
 .obtain⟨i,hi,rfl⟩:=zC.1 dJ;have hi:=zG.1 hi;have e1:i / hd.toNat<rows.length:=Nat.div_lt_of_lt_mul (by rw[wx];exact hi);have e2:=xJ i (show hd.toNat > 0 by omega);generalize i / hd.toNat=a at *
  generalize i % hd.toNat=b at *
  exact key _ _ _ _ _ rfl (by omega) (by omega) (by omega) (by omega) (by omega) (by omega)
 .obtain⟨h,hh,dJ⟩:=List.mem_flatMap.1 dJ;have hh:=zG.1 hh;rcases zH.1 dJ with rfl|dJ
  .exact key _ _ _ _ _ rfl (by omega) (by omega) (by omega) (by omega) (by omega) (by omega)
  .rw[zS.1 dJ];exact key _ _ _ _ _ rfl (by omega) (by omega) (by omega) (by omega) (by omega) (by omega)
 .obtain⟨p,hp,rfl⟩:=zC.1 dJ;have hp:=zG.1 hp;exact key _ _ _ _ _ rfl (by omega) (by omega) (by omega) (by omega) (by omega) (by omega)
 .obtain⟨p,hp,rfl⟩:=zC.1 dJ;have hp:=zG.1 hp;exact key _ _ _ _ _ rfl (by omega) (by omega) (by omega) (by omega) (by omega) (by omega)
 .obtain⟨w,hw,rfl⟩:=zC.1 dJ;have hw:=zG.1 hw;exact key _ _ _ _ _ rfl (by omega) (by omega) (by omega) (by omega) (by omega) (by omega)
theorem Q8t {hk:Int}{lw:List Int}{hd:Int}{rows:List Int}{ss:List Sgt}(h:Yb hk lw hd rows ss=0):Q6 hk lw hd rows=0/\ss.length<=60/\∀ s∈ss,Q2r lw s=true:=by
 unfold Yb at h;split at h
 .exact(absurd h ‹_›)
 .split at h
  .cases h
  .split at h
   .cases h
   .rename_i h3;have h3:(ss.any λs=>!Q2r lw s)=false:=by simpa using h3
    exact⟨by omega,by omega,λs hs=>by simpa using xw.1 h3 s hs⟩
theorem Oh {lw:List Int}{s:Sgt}(h:Q2r lw s=true):0<=s.1/\s.1<=119/\0<=s.2.1/\s.2.1<lw.length:=by unfold Q2r inI at h;simp only[z0,zf] at h;omega
end Go.Proofs.Tryz