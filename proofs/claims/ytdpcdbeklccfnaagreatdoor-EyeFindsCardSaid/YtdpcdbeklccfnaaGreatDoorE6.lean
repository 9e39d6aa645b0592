
import Derived.ProofKit
import Derived.OpenShut
import Derived.LaidMore
import Derived.Carry
import Derived.Lib.SmallJoins
import Derived.Deep.Slices
import Derived.Test.YtdpcdbeklccfnaaGreatDoorE5
noncomputable section
set_option linter.unusedVariables false
set_option maxRecDepth 100000
namespace Go.Proofs.Tryz
open Go Go.V Go.Proofs
def ZN (c:List (List UInt8)) (n:Int):Int:=if 60<c.length then 5 else if c.length=0 then 7 else if !inI n 1 96||c.any (λs=>decide ((s.length:Int)≠n)||!HY s) then 4 else 0
theorem OZ (a:UInt8) (k:Nat) (b:UInt8) (hb:b.toNat=k):(((UInt8.toNat a:Nat):Int)==(k:Int))=(a==b):=by rw[Bool.eq_iff_iff];simp only[zj];rw[<-hb,show (((UInt8.toNat a:Nat):Int)=((UInt8.toNat b:Nat):Int))<->a=b from ⟨λh=>UInt8.toNat_inj.1 (by omega),λh=>by rw[h]⟩]
theorem GB (lw:List Int) (r:Int):(Jj lw r).length=lw.length:=by simp[Jj]
theorem Q7z (a:UInt8):(((UInt8.toNat a:Nat):Int)==120)=(a==120):=OZ a 120 120 rfl
theorem Q6j (a:UInt8):(((UInt8.toNat a:Nat):Int) != 120)=(a != 120):=by simp only[bne,Q7z]
theorem Q7x (a:UInt8):(((UInt8.toNat a:Nat):Int)==46)=(a==46):=OZ a 46 46 rfl
theorem Q6e (a:UInt8):(((UInt8.toNat a:Nat):Int) != 46)=(a != 46):=by simp only[bne,Q7x]
theorem I2 {hk:Int}{lw:List Int}{hd:Int}{rows:List Int}(h:Qb hk lw hd rows=0):QL hk lw=0/\Qg hd rows=0/\hd=hk:=by
 unfold Qb at h;split at h
 .rename_i h1;exact absurd h h1
 rename_i h1;split at h
 .rename_i h2;exact absurd h h2
 rename_i h2;split at h
 .cases h
 rename_i h3;exact⟨by simpa using h1,by simpa using h2,by simpa using h3⟩
def Dl:AL (Int×Int×Int):=(.cons (.k (.i .i64)) (.cons (.k (.i .i64)) (.one (.k (.i .i64)))))
def RE (d:Int×Int×Int):Prop:=True
def G7 (d:Int×Int×Int):SV:=.val .bo (inI d.1 d.2.1 d.2.2)
def MZ (d:Int×Int×Int):List OB:=[]
def MJ:CSp:=W2 Dl RE G7 MZ
def YV (n:Int) (a:Int) (b:Int):Prop :=
 (((decide (n>=a))&&(decide (n<=b)))=(inI n a b)/\(True))
def B5:Cx:=⟨[],[],15,[],0,[],[],[],[],false,[],[],[],[]⟩
def Lq (n:Int) (a:Int) (b:Int):List (Nat×LoopAnn):=[]
theorem LK (d:Int×Int×Int):gwp (B5) (Lq d.1 d.2.1 d.2.2) c58 0 (WC [.tmp 6] (G7 d) (MZ d)) (Qr 15 (AL.can Dl d))=YV d.1 d.2.1 d.2.2:=by kernel_rfl
abbrev LG:Prop:=OkC Tryz.prog 58 MJ
theorem Cf (h:∀ (n:Int) (a:Int) (b:Int),(True)->YV n a b):OkC Tryz.prog 58 MJ :=
 QD Q3m mixed (C:=B5) (V:=λ(d:Int×Int×Int)=>YV d.1 d.2.1 d.2.2) ⟨.nil,XsOk.nil,ItsOk.nil,YlOk.nil,IysOk.nil,XfOk.nil⟩ (LK) λd hp=>h d.1 d.2.1 d.2.2 hp
theorem Lk:LG:=Cf λn a b _=>by simp[YV,inI]
def Nx:AL ((Int×List Int)×Int×List Int):=(.cons (.agg (.cons (.k (.i .i64)) (.one (.k (.list (.i .i64)))))) (.one (.agg (.cons (.k (.i .i64)) (.one (.k (.list (.i .i64))))))))
def HW (d:(Int×List Int)×Int×List Int):Prop:=True
def U4 (d:(Int×List Int)×Int×List Int):SV:=.val .bo (decide (d.1.1=d.2.1)&&decide (d.1.2.length=d.2.2.length))
def U0 (d:(Int×List Int)×Int×List Int):List OB:=[]
def Vg:CSp:=W2 Nx HW U4 U0
def Wf (hd:Int) (rows:List Int) (cW:Int) (aM:List Int):Prop :=
 (((hd==cW)&&((lI rows)==(lI aM)))=(decide (hd=cW)&&decide (rows.length=aM.length))/\(True))
def Mb:Cx:=⟨[],[],19,[],0,[],[],[],[],false,[],[],[],[]⟩
def Rv (hd:Int) (rows:List Int) (cW:Int) (aM:List Int):List (Nat×LoopAnn):=[]
theorem Tn (d:(Int×List Int)×Int×List Int):gwp (Mb) (Rv d.1.1 d.1.2 d.2.1 d.2.2) c35 0 (WC [.tmp 4] (U4 d) (U0 d)) (Qr 19 (AL.can Nx d))=Wf d.1.1 d.1.2 d.2.1 d.2.2:=by kernel_rfl
abbrev Rb:Prop:=OkC Tryz.prog 35 Vg
theorem TY (h:∀ (hd:Int) (rows:List Int) (cW:Int) (aM:List Int),(True)->Wf hd rows cW aM):OkC Tryz.prog 35 Vg :=
 QD Q2b mixed (C:=Mb) (V:=λ(d:(Int×List Int)×Int×List Int)=>Wf d.1.1 d.1.2 d.2.1 d.2.2) ⟨.nil,XsOk.nil,ItsOk.nil,YlOk.nil,IysOk.nil,XfOk.nil⟩ (Tn) λd hp=>h d.1.1 d.1.2 d.2.1 d.2.2 hp
theorem Tj:Rb:=TY λhd rows cW aM _=>by unfold Wf;(try delta lI gD sT I64 Q7 v7 v6);simp only[and_true];rw[Bool.eq_iff_iff];simp only[z1,zj,zg,Int.ofNat_inj]
def Nu:AL ((Int×List Int)×Int×List Int):=(.cons (.agg (.cons (.k (.i .i64)) (.one (.k (.list (.i .i64)))))) (.one (.agg (.cons (.k (.i .i64)) (.one (.k (.list (.i .i64))))))))
def HA (d:(Int×List Int)×Int×List Int):Prop:=d.1.2.length<=1000000
def Ua (d:(Int×List Int)×Int×List Int):SV:=.val .bo (decide (d.1.1=d.2.1)&&(d.1.2==d.2.2))
def U3 (d:(Int×List Int)×Int×List Int):List OB:=[]
def Vv:CSp:=W2 Nu HA Ua U3
def Wi (hd:Int) (rows:List Int) (cW:Int) (aM:List Int):Prop :=
 (True)/\((!(decide (hd=cW)&&decide (rows.length=aM.length)))=true ->
  (false=(decide (hd=cW)&&(rows==aM))/\(True))) /\
 ((!(decide (hd=cW)&&decide (rows.length=aM.length)))=false ->
  ∃ (e3:Unit) (d30:Int),((True/\True/\(0:Int)=d30/\True)/\((hd=hd/\rows=rows/\(([]:List SV)=[]))/\(cW=cW/\aM=aM/\(([]:List SV)=[]))/\True)) /\
  LoopP (λ(d3:Int) (q3:(Int)->Prop) =>
   ((decide (d3<(lI rows)))=true ->
    (0<=d3)/\(d3<rows.length)/\(0<=d3)/\(d3<aM.length)/\(((gD rows d3 0) != (gD aM d3 0))=true ->
     (false=(decide (hd=cW)&&(rows==aM))/\(True))) /\
    (((gD rows d3 0) != (gD aM d3 0))=false ->
     (I64 (d3+(1:Int)))/\(∃ d4:Int,((True/\True/\(d3+(1:Int))=d4/\True)/\((hd=hd/\rows=rows/\(([]:List SV)=[]))/\(cW=cW/\aM=aM/\(([]:List SV)=[]))/\True))/\q3 d4))) /\
   ((decide (d3<(lI rows)))=false ->
    (true=(decide (hd=cW)&&(rows==aM))/\(True)))) d30)
def NM:Cx:=⟨[],[(35,Vg)],28,[],0,[],[],[],[],false,[],[],[],[]⟩
def Tt (hd:Int) (rows:List Int) (cW:Int) (aM:List Int):List (Nat×LoopAnn):=[(0,⟨Unit,Int,[2,3,5],λe x=>[.box 2 0,.box 3 0,.val (.i .i64) x],λe x=>[(2,.slot 2,.cells [.val (.i .i64) hd,.val (.list (.i .i64)) rows] (some 26)),(3,.slot 3,.cells [.val (.i .i64) cW,.val (.list (.i .i64)) aM] (some 26))]⟩)]
theorem PX (d:(Int×List Int)×Int×List Int):gwp (NM) (Tt d.1.1 d.1.2 d.2.1 d.2.2) c13 0 (WC [.tmp 4] (Ua d) (U3 d)) (Qr 28 (AL.can Nu d))=Wi d.1.1 d.1.2 d.2.1 d.2.2:=by kernel_rfl
abbrev R2:Prop:=OkC Tryz.prog 13 Vv
theorem Tg (h:∀ (hd:Int) (rows:List Int) (cW:Int) (aM:List Int),(rows.length<=1000000)->Wi hd rows cW aM):OkC Tryz.prog 13 Vv :=
 QD Q2d mixed (C:=NM) (V:=λ(d:(Int×List Int)×Int×List Int)=>Wi d.1.1 d.1.2 d.2.1 d.2.2) ⟨(.cons Tj .nil),XsOk.nil,ItsOk.nil,YlOk.nil,IysOk.nil,XfOk.nil⟩ (PX) λd hp=>h d.1.1 d.1.2 d.2.1 d.2.2 hp
theorem Rg:R2:=Tg λhd rows cW aM hl=>by
 unfold Wi;(try delta lI gD sT I64 Q7 v7 v6);simp only[true_and,and_true,exists_eq_left',exists_const,zg,zn,bne_iff_ne,ne_eq,bne_eq_false_iff_eq,Bool.not_eq_true',zV,z1,Bool.and_eq_false_iff];refine⟨λh=>?_,λ⟨h0,h⟩=>?_⟩
 .symm;simp only[Bool.and_eq_false_iff,zn,zB]
  rcases h with h|h
  .exact .inl h
  .exact .inr (by rintro rfl;exact h rfl)
 subst h0;refine LoopP.count rows.length (λk=>rows.take k=aM.take k) rfl λk aV hJ q hq=>?_;simp only[zp,Int.ofNat_lt,Zd];refine⟨λai=>?_,λbu=>?_⟩
 .have ai:k<rows.length:=by omega
  rw[Qd ai,Qd (by omega)];refine⟨by omega,by omega,by omega,by omega,λhx=>?_,λhx=>⟨by omega,hq ai ?_⟩⟩
  .symm;simp only[decide_true,Bool.true_and,zB];rintro rfl;exact hx rfl
  .rw[Qi ai,Qi (by omega),hJ,hx]
 .rw[zC (by omega),zC (by omega)] at hJ;simp[hJ]
def U9:AL (Int×List Int):=(.one (.agg (.cons (.k (.i .i64)) (.one (.k (.list (.i .i64)))))))
def BM (d:Int×List Int):Prop:=True
def Vf (d:Int×List Int):SV:=.val (.i .i64) (Qg d.1 d.2)
def KL (d:Int×List Int):List OB:=[]
def YY:CSp:=W2 U9 BM Vf KL
def XM (hd:Int) (rows:List Int):Prop :=
 (True)/\((!(inI hd (1:Int) (24:Int)))=true ->
  ((2:Int)=(Qg hd rows)/\(True))) /\
 ((!(inI hd (1:Int) (24:Int)))=false ->
  ((decide ((lI rows) > (60:Int)))=true ->
   ((5:Int)=(Qg hd rows)/\(True))) /\
  ((decide ((lI rows) > (60:Int)))=false ->
   (((lI rows)==(0:Int))=true ->
    ((7:Int)=(Qg hd rows)/\(True))) /\
   (((lI rows)==(0:Int))=false ->
    ∃ (e3:Unit) (d30:Int),((True/\(0:Int)=d30/\True)/\((hd=hd/\rows=rows/\(([]:List SV)=[]))/\True)) /\
    LoopP (λ(d3:Int) (q3:(Int)->Prop) =>
     ((decide (d3<(lI rows)))=true ->
      (0<=d3)/\(d3<rows.length)/\(InK .u64 hd)/\(0<=hd)/\(I64 (LH .i64 (1:Int) hd))/\(I64 ((LH .i64 (1:Int) hd)-(1:Int)))/\(True)/\((!(inI (gD rows d3 0) (0:Int) ((LH .i64 (1:Int) hd)-(1:Int))))=true ->
       ((2:Int)=(Qg hd rows)/\(True))) /\
      ((!(inI (gD rows d3 0) (0:Int) ((LH .i64 (1:Int) hd)-(1:Int))))=false ->
       (I64 (d3+(1:Int)))/\(∃ d4:Int,((True/\(d3+(1:Int))=d4/\True)/\((hd=hd/\rows=rows/\(([]:List SV)=[]))/\True))/\q3 d4))) /\
     ((decide (d3<(lI rows)))=false ->
      ((0:Int)=(Qg hd rows)/\(True)))) d30)))
def UD:Cx:=⟨[],[(58,MJ)],35,[],0,[],[],[],[],false,[],[],[],[]⟩
def HF (hd:Int) (rows:List Int):List (Nat×LoopAnn):=[(0,⟨Unit,Int,[1,3],λe x=>[.box 1 0,.val (.i .i64) x],λe x=>[(1,.slot 1,.cells [.val (.i .i64) hd,.val (.list (.i .i64)) rows] (some 26))]⟩)]
theorem HN (d:Int×List Int):gwp (UD) (HF d.1 d.2) c28 0 (WC [.tmp 2] (Vf d) (KL d)) (Qr 35 (AL.can U9 d))=XM d.1 d.2:=by kernel_rfl
abbrev Hv:Prop:=OkC Tryz.prog 28 YY
theorem Hn (h:∀ (hd:Int) (rows:List Int),(True)->XM hd rows):OkC Tryz.prog 28 YY :=
 QD Q2e mixed (C:=UD) (V:=λ(d:Int×List Int)=>XM d.1 d.2) ⟨(.cons Lk .nil),XsOk.nil,ItsOk.nil,YlOk.nil,IysOk.nil,XfOk.nil⟩ (HN) λd hp=>h d.1 d.2 hp
theorem P1:Hv:=Hn λhd rows _=>by
 unfold XM;(try delta lI gD sT I64 Q7 v7 v6);simp only[true_and,and_true,exists_eq_left',exists_const,zg,zn,zj,ne_eq,zB,Bool.not_eq_true',zV,gt_iff_lt];refine⟨λh1=>by simp[Qg,h1],λh1=>⟨λh2=>?_,λh2=>⟨λh3=>?_,λh3=>?_⟩⟩⟩
 .have:60<rows.length:=by omega
  simp[Qg,h1,this]
 .have h3:rows.length=0:=by omega
  simp[Qg,h1,h3]
 have fh:¬ 60<rows.length:=by omega
 have fk:¬ rows.length=0:=by omega
 have hi:1<=hd/\hd<=24:=by simpa [inI] using h1
 have ju:=NT hi.1 hi.2;have hs:=I5 (h:=hd) (by omega) (by omega);have jW:Qg hd rows=if rows.any (λx=>!inI x 0 (2 ^ hd.toNat-1)) then 2 else 0:=by simp only[Qg,h1,fh,fk];simp
 refine LoopP.count rows.length (λk=>(rows.take k).any (λx=>!inI x 0 (2 ^ hd.toNat-1))=false) (by simp) λk aV hJ q hq=>?_;simp only[zp,Int.ofNat_lt,Zd,Q1h,hs];refine⟨λai=>?_,λbu=>?_⟩
 .have ai:k<rows.length:=by omega
  simp only[Qd ai];refine⟨by omega,by omega,by omega,by omega,by omega,by omega,λhx=>?_,λhx=>⟨by omega,hq ai ?_⟩⟩
  .rw[jW,z6 (xJ.2 ⟨rows[k],zq ai,by simp[hx]⟩)]
  .rw[Qi ai,List.any_append,hJ];simp[hx]
 .rw[zC (by omega)] at hJ;rw[jW,hJ];rfl
def Vk:AL (Int×Int):=(.cons (.k (.i .i64)) (.one (.k (.i .i64))))
def GM (d:Int×Int):Prop:=0<=d.1/\d.1<9223372036854775808/\0<=d.2/\d.2<=64
def Kx (d:Int×Int):SV:=.lst 0
def Ku (d:Int×Int):List OB:=[.lst 4 .bo (YA d.1 d.2.toNat) false]
def Yk:CSp:=W2 Vk GM Kx Ku
def JY (r:Int) (h:Int):Prop :=
 ∃ (e2:Unit) (d20:Int×(List Bool)×Int),((r=d20.1/\h=h/\True/\(0:Int)=d20.2.2/\True)/\((([]:List Bool)=d20.2.1/\false=false)/\True)) /\
 LoopP (λ(d2:Int×(List Bool)×Int) (q2:(Int×(List Bool)×Int)->Prop) =>
  ((decide (d2.2.2<h))=true ->
   ((2:Int)≠0)/\((d2.2.1.length+(List.length [((Int.tmod d2.1 (2:Int))==(1:Int))]))*1<=70368744177664)/\((2:Int)≠0)/\(I64 (Int.tdiv d2.1 (2:Int)))/\(I64 (d2.2.2+(1:Int)))/\(∃ d3:Int×(List Bool)×Int,(((Int.tdiv d2.1 (2:Int))=d3.1/\h=h/\True/\(d2.2.2+(1:Int))=d3.2.2/\True)/\(((d2.2.1++[((Int.tmod d2.1 (2:Int))==(1:Int))])=d3.2.1/\false=false)/\True))/\q2 d3)) /\
  ((decide (d2.2.2<h))=false ->
   (True/\((d2.2.1=(YA r h.toNat)/\false=false)/\True)))) d20
def Vm:Cx:=⟨[(4,.bo)],[],22,[],0,[],[],[],[],false,[],[],[],[]⟩
def DC (r:Int) (h:Int):List (Nat×LoopAnn):=[(0,⟨Unit,Int×(List Bool)×Int,[0,1,5,6],λe x=>[.val (.i .i64) x.1,.val (.i .i64) h,.lst 7,.val (.i .i64) x.2.2],λe x=>[(7,.slot 5,.lst 4 .bo x.2.1 false)]⟩)]
theorem Bd (d:Int×Int):gwp (Vm) (DC d.1 d.2) c63 0 (WC [.tmp 4] (Kx d) (Ku d)) (Qr 22 (AL.can Vk d))=JY d.1 d.2:=by kernel_rfl
abbrev BF:Prop:=OkC Tryz.prog 63 Yk
theorem DV (h:∀ (r:Int) (h:Int),(0<=r/\r<9223372036854775808/\0<=h/\h<=64)->JY r h):OkC Tryz.prog 63 Yk :=
 QD Q4b mixed (C:=Vm) (V:=λ(d:Int×Int)=>JY d.1 d.2) ⟨.nil,XsOk.nil,ItsOk.nil,YlOk.nil,IysOk.nil,XfOk.nil⟩ (Bd) λd hp=>h d.1 d.2 hp
theorem Bv:BF:=DV λr h hp=>by
 obtain⟨h1,h0,h2,h3⟩:=hp;obtain⟨n,rfl⟩:=zY h1;obtain⟨m,rfl⟩:=zY h2;unfold JY;(try delta lI gD sT I64 Q7 v7 v6);simp only[true_and,and_true,exists_const,zg,zn,ne_eq,zp,Zd];refine⟨((n:Int),[],0),(by and_intros<;>first|rfl|trivial|simp),?_⟩;refine⟨λd=>∃ k:Nat,k<=m/\d.2.2=k/\d.1=((n / 2 ^ k:Nat):Int)/\d.2.1=YA n k,λd=>m-d.2.2.toNat,⟨0,Nat.zero_le _,rfl,by simp,rfl⟩,?_⟩;rintro⟨a,xs,c⟩ ⟨k,hk,hc,ha,hx⟩;dsimp only at hc ha hx |-;subst hc ha hx;have hq:n / 2 ^ k<=n:=Nat.div_le_self _ _;have e1:n / 2 ^ (k+1)=n / 2 ^ k / 2:=by rw[Nat.pow_succ,Nat.div_div_eq_div_mul]
 have e2:n.testBit k=(((n / 2 ^ k % 2:Nat):Int)==1):=by
  rw[Nat.testBit_eq_decide_div_mod_eq];by_cases hb:n / 2 ^ k % 2=1
  .simp[hb]
  .have:n / 2 ^ k % 2=0:=by omega
   simp[this]
 simp only[Ov,OD,Aj,zw];generalize n / 2 ^ k=y at hq e1 e2 |-;refine⟨λai=>?_,λbu=>?_⟩
 .refine⟨by omega,by omega,by omega,by omega,by omega,(((y / 2:Nat):Int),YA n k++[((y % 2:Nat):Int)==1],(k:Int)+1),(by and_intros<;>first|rfl|trivial|simp),⟨k+1,by omega,rfl,by rw[e1],by rw[EZ,zp,e2]⟩,by dsimp only;omega⟩
 .have:k=m:=by omega
  subst this;exact(by and_intros<;>first|rfl|trivial|simp)
def Ur:AL (Int×List Int):=(.one (.agg (.cons (.k (.i .i64)) (.one (.k (.list (.i .i64)))))))
def H9 (d:Int×List Int):Prop:=d.2.length<=1000/\(∀ x∈d.2,0<=x/\x<9223372036854775808)/\0<=d.1/\d.1<=64
def Vl (d:Int×List Int):SV:=.dd 0 .out
def Vt (d:Int×List Int):List OB:=[.deep 47 (some 4) (.list .bo) (d.2.map λr=>YA r d.1.toNat) false none]
def K6:CSp:=W2 Ur H9 Vl Vt
def XC (hd:Int) (rows:List Int):Prop :=
 ∃ (e3:Unit) (d30:(List (List Bool))×Int),((True/\True/\(0:Int)=d30.2/\True)/\((hd=hd/\rows=rows/\(([]:List SV)=[]))/\(([]:List (List Bool))=d30.1/\false=false)/\True)) /\
 LoopP (λ(d3:(List (List Bool))×Int) (q3:((List (List Bool))×Int)->Prop) =>
  ((decide (d3.2<(lI rows)))=true ->
   (0<=d3.2)/\(d3.2<rows.length)/\(0<=(gD rows d3.2 0)/\(gD rows d3.2 0)<9223372036854775808/\0<=hd/\hd<=64)/\(false=true->(YA (gD rows d3.2 0) hd.toNat)=[])/\((d3.1.length+(List.length [(YA (gD rows d3.2 0) hd.toNat)]))*24<=70368744177664)/\(I64 (d3.2+(1:Int)))/\(∃ d4:(List (List Bool))×Int,((True/\True/\(d3.2+(1:Int))=d4.2/\True)/\((hd=hd/\rows=rows/\(([]:List SV)=[]))/\((d3.1++[(YA (gD rows d3.2 0) hd.toNat)])=d4.1/\false=false)/\True))/\q3 d4)) /\
  ((decide (d3.2<(lI rows)))=false ->
   (True/\((d3.1=(rows.map λr=>YA r hd.toNat)/\false=false)/\True)))) d30
def VY:Cx:=⟨[(47,(.list .bo))],[(63,Yk)],25,[],0,[],[],[(47,4)],[],false,[],[],[],[]⟩
def P3 (hd:Int) (rows:List Int):List (Nat×LoopAnn):=[(0,⟨Unit,(List (List Bool))×Int,[1,3,4],λe x=>[.box 1 0,.dd 5 .out,.val (.i .i64) x.2],λe x=>[(1,.slot 1,.cells [.val (.i .i64) hd,.val (.list (.i .i64)) rows] (some 26)),(5,.slot 3,.deep 47 (some 4) (.list .bo) x.1 false none)]⟩)]
theorem P6 (d:Int×List Int):gwp (VY) (P3 d.1 d.2) c36 0 (WC [.tmp 2] (Vl d) (Vt d)) (Qr 25 (AL.can Ur d))=XC d.1 d.2:=by kernel_rfl
abbrev Pb:Prop:=OkC Tryz.prog 36 K6
theorem HJ (h:∀ (hd:Int) (rows:List Int),(rows.length<=1000/\(∀ x∈rows,0<=x/\x<9223372036854775808)/\0<=hd/\hd<=64)->XC hd rows):OkC Tryz.prog 36 K6 :=
 QD Q3h mixed (C:=VY) (V:=λ(d:Int×List Int)=>XC d.1 d.2) ⟨(.cons Bv .nil),XsOk.nil,ItsOk.nil,YlOk.nil,IysOk.nil,XfOk.nil⟩ (P6) λd hp=>h d.1 d.2 hp
theorem HH:Pb:=HJ λhd rows hp=>by
 obtain⟨h1,h2,h3,h4⟩:=hp;unfold XC;(try delta lI gD sT I64 Q7 v7 v6);simp only[true_and,and_true,exists_const,zg,zn,Zd];refine⟨([],0),(by and_intros<;>first|rfl|trivial|simp),?_⟩;refine LoopP.count2 rows.length (λk xs=>xs=(rows.take k).map λr=>YA r hd.toNat) (by simp) λk xs hk hJ q hq=>?_;have eO:xs.length=k:=by rw[hJ];simp;omega
 dsimp only;refine⟨λai=>?_,λbu=>?_⟩
 .have ai:k<rows.length:=by omega
  have hx:=h2 _ (zq ai);simp only[zp,Qd ai,zw];refine⟨by omega,by omega,⟨hx.1,hx.2,h3,h4⟩,by simp,by omega,by omega,(xs++[YA rows[k] hd.toNat],(k:Int)+1),(by and_intros<;>first|rfl|trivial|simp),hq _ ai ?_⟩;rw[Qi ai,xC,<-hJ];rfl
 .have:k=rows.length:=by omega
  subst this;rw[List.take_length] at hJ;rw[hJ]
def M4:AL ((Int×List Int)×Int×List Int):=(.cons (.agg (.cons (.k (.i .i64)) (.one (.k (.list (.i .i64)))))) (.one (.agg (.cons (.k (.i .i64)) (.one (.k (.list (.i .i64))))))))
def Pc (d:(Int×List Int)×Int×List Int):Prop:=True
def U5 (d:(Int×List Int)×Int×List Int):SV:=.val (.i .i64) (Qb d.1.1 d.1.2 d.2.1 d.2.2)
def VX (d:(Int×List Int)×Int×List Int):List OB:=[]
def V7:CSp:=W2 M4 Pc U5 VX
def Wg (hk:Int) (lw:List Int) (hd:Int) (rows:List Int):Prop :=
 (True)/\(((QL hk lw) != (0:Int))=true ->
  ((QL hk lw)=(Qb hk lw hd rows)/\(True))) /\
 (((QL hk lw) != (0:Int))=false ->
  (True)/\(((Qg hd rows) != (0:Int))=true ->
   ((Qg hd rows)=(Qb hk lw hd rows)/\(True))) /\
  (((Qg hd rows) != (0:Int))=false ->
   ((hk != hd)=true ->
    ((4:Int)=(Qb hk lw hd rows)/\(True))) /\
   ((hk != hd)=false ->
    ((0:Int)=(Qb hk lw hd rows)/\(True)))))
def Ns:Cx:=⟨[],[(27,K2),(28,YY)],22,[],0,[],[],[],[],false,[],[],[],[]⟩
def R9 (hk:Int) (lw:List Int) (hd:Int) (rows:List Int):List (Nat×LoopAnn):=[]
theorem Tw (d:(Int×List Int)×Int×List Int):gwp (Ns) (R9 d.1.1 d.1.2 d.2.1 d.2.2) c6 0 (WC [.tmp 4] (U5 d) (VX d)) (Qr 22 (AL.can M4 d))=Wg d.1.1 d.1.2 d.2.1 d.2.2:=by kernel_rfl
abbrev Rn:Prop:=OkC Tryz.prog 6 V7
theorem Rl (h:∀ (hk:Int) (lw:List Int) (hd:Int) (rows:List Int),(True)->Wg hk lw hd rows):OkC Tryz.prog 6 V7 :=
 QD Q7c mixed (C:=Ns) (V:=λ(d:(Int×List Int)×Int×List Int)=>Wg d.1.1 d.1.2 d.2.1 d.2.2) ⟨(.cons HC (.cons P1 .nil)),XsOk.nil,ItsOk.nil,YlOk.nil,IysOk.nil,XfOk.nil⟩ (Tw) λd hp=>h d.1.1 d.1.2 d.2.1 d.2.2 hp
theorem TC:Rn:=Rl λhk lw hd rows _=>by
 unfold Wg;(try delta lI gD sT I64 Q7 v7 v6);simp only[true_and,and_true,bne_iff_ne,ne_eq,bne_eq_false_iff_eq];refine⟨λh=>by simp[Qb,h],λh=>⟨λh1=>by simp[Qb,h,h1],λh1=>⟨λh2=>?_,λh2=>?_⟩⟩⟩
 .have:¬ hd=hk:=λe=>h2 e.symm;simp[Qb,h,h1,this]
 .subst h2;simp[Qb,h,h1]
def Ub:AL (List (List UInt8)×List (List UInt8)):=(.cons (.k (.list .st)) (.one (.k (.list .st))))
def Bb (d:List (List UInt8)×List (List UInt8)):Prop:=d.1.length<=1000000
def Vd (d:List (List UInt8)×List (List UInt8)):SV:=.val .bo (d.1==d.2)
def V8 (d:List (List UInt8)×List (List UInt8)):List OB:=[]
def K1:CSp:=W2 Ub Bb Vd V8
def XL (a:List (List UInt8)) (b:List (List UInt8)):Prop :=
 (((lI a) != (lI b))=true ->
  (false=(a==b)/\(True))) /\
 (((lI a) != (lI b))=false ->
  ∃ (e2:Unit) (d20:Int),((a=a/\b=b/\(0:Int)=d20/\True)/\(True)) /\
  LoopP (λ(d2:Int) (q2:(Int)->Prop) =>
   ((decide (d2<(lI a)))=true ->
    (0<=d2)/\(d2<a.length)/\(0<=d2)/\(d2<b.length)/\((!((gD a d2 [])==(gD b d2 [])))=true ->
     (false=(a==b)/\(True))) /\
    ((!((gD a d2 [])==(gD b d2 [])))=false ->
     (I64 (d2+(1:Int)))/\(∃ d3:Int,((a=a/\b=b/\(d2+(1:Int))=d3/\True)/\(True))/\q2 d3))) /\
   ((decide (d2<(lI a)))=false ->
    (true=(a==b)/\(True)))) d20)
def Ue:Cx:=⟨[],[],26,[],0,[],[],[],[],false,[],[],[],[]⟩
def Hu (a:List (List UInt8)) (b:List (List UInt8)):List (Nat×LoopAnn):=[(0,⟨Unit,Int,[0,1,5],λe x=>[.val (.list .st) a,.val (.list .st) b,.val (.i .i64) x],λe x=>[]⟩)]
theorem HK (d:List (List UInt8)×List (List UInt8)):gwp (Ue) (Hu d.1 d.2) c14 0 (WC [.tmp 4] (Vd d) (V8 d)) (Qr 26 (AL.can Ub d))=XL d.1 d.2:=by kernel_rfl
abbrev P4:Prop:=OkC Tryz.prog 14 K1
theorem HM (h:∀ (a:List (List UInt8)) (b:List (List UInt8)),(a.length<=1000000)->XL a b):OkC Tryz.prog 14 K1 :=
 QD Q3f mixed (C:=Ue) (V:=λ(d:List (List UInt8)×List (List UInt8))=>XL d.1 d.2) ⟨.nil,XsOk.nil,ItsOk.nil,YlOk.nil,IysOk.nil,XfOk.nil⟩ (HK) λd hp=>h d.1 d.2 hp
theorem Pd:P4:=HM λa b h=>by
 unfold XL;(try delta lI gD sT I64 Q7 v7 v6);simp only[true_and,and_true,exists_eq_left',exists_const,zg,zn,zj,bne_iff_ne,ne_eq,zB,bne_eq_false_iff_eq,Bool.not_eq_true',zV];refine⟨λh=>?_,λh=>?_⟩
 .symm;rw[zB];rintro rfl;exact h rfl
 have h:a.length=b.length:=by omega
 refine LoopP.count a.length (λk=>a.take k=b.take k) rfl λk aV hJ q hq=>?_;simp only[zp,Int.ofNat_lt,Zd];refine⟨λai=>?_,λbu=>?_⟩
 .have ai:k<a.length:=by omega
  rw[Qd ai,Qd (by omega)];refine⟨by omega,by omega,by omega,by omega,λhx=>?_,λhx=>⟨by omega,hq ai ?_⟩⟩
  .symm;rw[zB];rintro rfl;exact hx rfl
  .rw[Qi ai,Qi (by omega),hJ,hx]
 .rw[zC (by omega),zC (by omega)] at hJ;simp[hJ]
def M5:AL (List (List UInt8)×Int):=(.cons (.k (.list .st)) (.one (.k (.i .i64))))
def P9 (d:List (List UInt8)×Int):Prop:=d.1.length<=1000
def U1 (d:List (List UInt8)×Int):SV:=.val (.i .i64) (ZN d.1 d.2)
def UC (d:List (List UInt8)×Int):List OB:=[]
def KP:CSp:=W2 M5 P9 U1 UC
def Wn (c:List (List UInt8)) (n:Int):Prop :=
 ((decide ((lI c) > (60:Int)))=true ->
  ((5:Int)=(ZN c n)/\(True))) /\
 ((decide ((lI c) > (60:Int)))=false ->
  (((lI c)==(0:Int))=true ->
   ((7:Int)=(ZN c n)/\(True))) /\
  (((lI c)==(0:Int))=false ->
   ∃ (e2:Unit) (d20:Int),((c=c/\n=n/\(0:Int)=d20/\True)/\(True)) /\
   LoopP (λ(d2:Int) (q2:(Int)->Prop) =>
    ((decide (d2<(lI c)))=true ->
     (0<=d2)/\(d2<c.length)/\(((lI (gD c d2 [])) != n)=false->True)/\((((lI (gD c d2 [])) != n)||(!(inI n (1:Int) (96:Int))))=true ->
      ((4:Int)=(ZN c n)/\(True))) /\
     ((((lI (gD c d2 [])) != n)||(!(inI n (1:Int) (96:Int))))=false ->
      ∃ (e4:Int) (d40:Int),((c=c/\n=n/\d2=e4/\(0:Int)=d40/\True)/\(True)) /\
      LoopP (λ(d4:Int) (q4:(Int)->Prop) =>
       ((decide (d4<n))=true ->
        (0<=e4)/\(e4<c.length)/\(0<=d4)/\(d4<(List.length (gD c e4 [])))/\((((UInt8.toNat (gD (gD c e4 []) d4 0):Nat):Int) != (120:Int))=true->0<=e4)/\((((UInt8.toNat (gD (gD c e4 []) d4 0):Nat):Int) != (120:Int))=true->e4<c.length)/\((((UInt8.toNat (gD (gD c e4 []) d4 0):Nat):Int) != (120:Int))=true->0<=d4)/\((((UInt8.toNat (gD (gD c e4 []) d4 0):Nat):Int) != (120:Int))=true->d4<(List.length (gD c e4 [])))/\(((((UInt8.toNat (gD (gD c e4 []) d4 0):Nat):Int) != (120:Int))&&(((UInt8.toNat (gD (gD c e4 []) d4 0):Nat):Int) != (46:Int)))=true ->
         ((4:Int)=(ZN c n)/\(True))) /\
        (((((UInt8.toNat (gD (gD c e4 []) d4 0):Nat):Int) != (120:Int))&&(((UInt8.toNat (gD (gD c e4 []) d4 0):Nat):Int) != (46:Int)))=false ->
         (I64 (d4+(1:Int)))/\(∃ d5:Int,((c=c/\n=n/\e4=e4/\(d4+(1:Int))=d5/\True)/\(True))/\q4 d5))) /\
       ((decide (d4<n))=false ->
        (I64 (e4+(1:Int)))/\(∃ d6:Int,((c=c/\n=n/\(e4+(1:Int))=d6/\True)/\(True))/\q2 d6))) d40)) /\
    ((decide (d2<(lI c)))=false ->
     ((0:Int)=(ZN c n)/\(True)))) d20))
def M8:Cx:=⟨[],[(29,VL)],52,[],0,[],[],[],[],false,[],[],[],[]⟩
def T4 (c:List (List UInt8)) (n:Int):List (Nat×LoopAnn):=[(0,⟨Unit,Int,[0,1,5],λe x=>[.val (.list .st) c,.val (.i .i64) n,.val (.i .i64) x],λe x=>[]⟩),
 (2,⟨Int,Int,[0,1,5,6],λe x=>[.val (.list .st) c,.val (.i .i64) n,.val (.i .i64) e,.val (.i .i64) x],λe x=>[]⟩)]
theorem TB (d:List (List UInt8)×Int):gwp (M8) (T4 d.1 d.2) c7 0 (WC [.tmp 4] (U1 d) (UC d)) (Qr 52 (AL.can M5 d))=Wn d.1 d.2:=by kernel_rfl
abbrev T8:Prop:=OkC Tryz.prog 7 KP
theorem TO (h:∀ (c:List (List UInt8)) (n:Int),(c.length<=1000)->Wn c n):OkC Tryz.prog 7 KP :=
 QD Q7n mixed (C:=M8) (V:=λ(d:List (List UInt8)×Int)=>Wn d.1 d.2) ⟨(.cons DM .nil),XsOk.nil,ItsOk.nil,YlOk.nil,IysOk.nil,XfOk.nil⟩ (TB) λd hp=>h d.1 d.2 hp
theorem TM:T8:=TO λc n h=>by
 unfold Wn;(try delta lI gD sT I64 Q7 v7 v6)
 (try simp only[zg,zn])
 have ce:¬ 60<c.length->¬ c.length=0->ZN c n=if !inI n 1 96||c.any (λs=>decide ((s.length:Int)≠n)||!HY s) then 4 else 0:=λh1 h2=>by unfold ZN;rw[z7 h1,z7 h2]
 refine⟨λh1=>?_,λh1=>⟨λh2=>?_,λh2=>?_⟩⟩
 .unfold ZN;rw[z6 (by omega)];exact(by and_intros<;>first|rfl|trivial|simp)
 .have h2:c.length=0:=by simp only[zj] at h2;omega
  unfold ZN;rw[z7 (by omega),z6 h2];exact(by and_intros<;>first|rfl|trivial|simp)
 have fh:¬ c.length=0:=by simp only[zB] at h2;omega
 rw[ce (by omega) fh];refine⟨(),0,(by and_intros<;>first|rfl|trivial|simp),?_⟩;refine LoopP.count c.length (λk=>∀ j (hj:j<c.length),j<k->(c[j].length:Int)=n/\inI n 1 96=true/\HY c[j]=true) (λj _ h=>by omega) λi hi hJ q hq=>?_;refine⟨λai=>?_,λbu=>?_⟩
 .have ai:i<c.length:=by omega
  simp only[zp,Qd ai];have mem:=zq ai;refine⟨by omega,by omega,λ_=>trivial,λhb=>?_,λhb=>⟨(i:Int),0,(by and_intros<;>first|rfl|trivial|simp),?_⟩⟩
  .have:(!inI n 1 96||c.any (λs=>decide ((s.length:Int)≠n)||!HY s))=true:=by
    simp only[zt,bne_iff_ne] at hb |-;rcases hb with hb|hb
    .exact .inr (xJ.2 ⟨_,mem,by simp[hb]⟩)
    .exact .inl hb
   rw[this];exact(by and_intros<;>first|rfl|trivial|simp)
  .simp only[Bool.or_eq_false_iff,bne_eq_false_iff_eq,zV] at hb;have hn:n=((c[i].length:Nat):Int):=hb.1.symm;subst hn;have uX:1<=((c[i].length:Nat):Int)/\((c[i].length:Nat):Int)<=96:=by simpa [inI] using hb.2
   refine LoopP.count c[i].length (λk=>∀ j (hj:j<c[i].length),j<k->(c[i][j]=120\/c[i][j]=46)) (λj _ h=>by omega) λw hw hI q2 mL=>?_;simp only[zp,Qd ai];refine⟨λcr=>?_,λbu=>⟨by rw[Zd];omega,_,(by and_intros<;>first|rfl|trivial|simp),hq ai λj hj e_=>?_⟩⟩
   .have cr:w<c[i].length:=by omega
    simp only[Qd cr,Q6j,Q6e];refine⟨by omega,by omega,by omega,by omega,λ_=>by omega,λ_=>by omega,λ_=>by omega,λ_=>by omega,λbP=>?_,λbP=>⟨by rw[Zd];omega,_,(by and_intros<;>first|rfl|trivial|simp),mL cr λj hj e_=>?_⟩⟩
    .have:(!inI ((c[i].length:Nat):Int) 1 96||c.any (λs=>decide ((s.length:Int)≠((c[i].length:Nat):Int))||!HY s))=true:=by
      simp only[zt];refine .inr (xJ.2 ⟨_,mem,?_⟩);simp only[zt,Bool.not_eq_true',HY,List.all_eq_false];refine .inr ⟨_,zq cr,?_⟩;simpa using bP
     rw[this];exact(by and_intros<;>first|rfl|trivial|simp)
    .rcases Nat.lt_succ_iff_lt_or_eq.1 e_ with e_|rfl
     .exact hI j hj e_
     .have lf:¬ (c[i][j]≠120/\c[i][j]≠46):=by simpa using bP
      by_cases e:c[i][j]=120
      .exact .inl e
      .exact .inr (Decidable.byContradiction λe2=>lf ⟨e,e2⟩)
   .rcases Nat.lt_succ_iff_lt_or_eq.1 e_ with e_|rfl
    .exact hJ j hj e_
    .refine⟨rfl,hb.2,?_⟩;simp only[HY,zf,zt,zj];intro x hx;obtain⟨w',fU,rfl⟩:=List.getElem_of_mem hx;exact hI w' fU (by omega)
 .have bS:inI n 1 96=true:=(hJ 0 (by omega) (by omega)).2.1;have ha:c.any (λs=>decide ((s.length:Int)≠n)||!HY s)=false:=by
   rw[xM];intro s hs;obtain⟨j,hj,rfl⟩:=List.getElem_of_mem hs;obtain⟨k1,k2,k3⟩:=hJ j hj (by omega);simp[k1,k3]
  rw[bS,ha];exact(by and_intros<;>first|rfl|trivial|simp)
def Uy:AL ((Int×List Int)×Int×List Int):=(.cons (.agg (.cons (.k (.i .i64)) (.one (.k (.list (.i .i64)))))) (.one (.agg (.cons (.k (.i .i64)) (.one (.k (.list (.i .i64))))))))
def DL (d:(Int×List Int)×Int×List Int):Prop:=Qb d.1.1 d.1.2 d.2.1 d.2.2=0
def Vc (d:(Int×List Int)×Int×List Int):SV:=.lst 0
def V9 (d:(Int×List Int)×Int×List Int):List OB:=[.lst 9 .st (QF d.1.1 d.1.2 d.2.1 d.2.2) false]
def Kf:CSp:=W2 Uy DL Vc V9
def XI (hk:Int) (lw:List Int) (hd:Int) (rows:List Int):Prop :=
 (rows.length<=1000/\(∀ x∈rows,0<=x/\x<9223372036854775808)/\0<=hd/\hd<=64)/\∃ (e3:Unit) (d30:(List (List UInt8))×Int),((True/\True/\True/\(0:Int)=d30.2/\True)/\((hk=hk/\lw=lw/\(([]:List SV)=[]))/\(([]:List (List UInt8))=d30.1/\false=false)/\((rows.map λr=>YA r hd.toNat)=(rows.map λr=>YA r hd.toNat)/\false=false)/\True)) /\
 LoopP (λ(d3:(List (List UInt8))×Int) (q3:((List (List UInt8))×Int)->Prop) =>
  ((decide (d3.2<(lI (rows.map λr=>YA r hd.toNat))))=true ->
   ∃ (e6:(List (List UInt8))×Int) (d60:(List UInt8)×Int),((True/\True/\True/\d3.2=e6.2/\[]=d60.1/\(0:Int)=d60.2/\True)/\((hk=hk/\lw=lw/\(([]:List SV)=[]))/\(d3.1=e6.1/\false=false)/\((rows.map λr=>YA r hd.toNat)=(rows.map λr=>YA r hd.toNat)/\false=false)/\True)) /\
   LoopP (λ(d6:(List UInt8)×Int) (q6:((List UInt8)×Int)->Prop) =>
    ((decide (d6.2<(lI lw)))=true ->
     (0<=e6.2)/\(e6.2<(List.length (rows.map λr=>YA r hd.toNat)))/\(0<=d6.2)/\(d6.2<lw.length)/\(0<=(gD lw d6.2 0))/\((gD lw d6.2 0)<(List.length (gD (rows.map λr=>YA r hd.toNat) e6.2 [])))/\((gD (gD (rows.map λr=>YA r hd.toNat) e6.2 []) (gD lw d6.2 0) false)=true ->
      (d6.1.length+(List.length [120])<=4611686018427387904)/\(I64 (d6.2+(1:Int)))/\(∃ d7:(List UInt8)×Int,((True/\True/\True/\e6.2=e6.2/\(d6.1++[120])=d7.1/\(d6.2+(1:Int))=d7.2/\True)/\((hk=hk/\lw=lw/\(([]:List SV)=[]))/\(e6.1=e6.1/\false=false)/\((rows.map λr=>YA r hd.toNat)=(rows.map λr=>YA r hd.toNat)/\false=false)/\True))/\q6 d7)) /\
     ((gD (gD (rows.map λr=>YA r hd.toNat) e6.2 []) (gD lw d6.2 0) false)=false ->
      (d6.1.length+(List.length [46])<=4611686018427387904)/\(I64 (d6.2+(1:Int)))/\(∃ d8:(List UInt8)×Int,((True/\True/\True/\e6.2=e6.2/\(d6.1++[46])=d8.1/\(d6.2+(1:Int))=d8.2/\True)/\((hk=hk/\lw=lw/\(([]:List SV)=[]))/\(e6.1=e6.1/\false=false)/\((rows.map λr=>YA r hd.toNat)=(rows.map λr=>YA r hd.toNat)/\false=false)/\True))/\q6 d8))) /\
    ((decide (d6.2<(lI lw)))=false ->
     ((e6.1.length+(List.length [d6.1]))*16<=70368744177664)/\(I64 (e6.2+(1:Int)))/\(∃ d9:(List (List UInt8))×Int,((True/\True/\True/\(e6.2+(1:Int))=d9.2/\True)/\((hk=hk/\lw=lw/\(([]:List SV)=[]))/\((e6.1++[d6.1])=d9.1/\false=false)/\((rows.map λr=>YA r hd.toNat)=(rows.map λr=>YA r hd.toNat)/\false=false)/\True))/\q3 d9))) d60) /\
  ((decide (d3.2<(lI (rows.map λr=>YA r hd.toNat))))=false ->
   (True/\((d3.1=(QF hk lw hd rows)/\false=false)/\True)))) d30
def U2:Cx:=⟨[(9,.st)],[(36,K6)],46,[],0,[],[],[],[],false,[],[],[],[]⟩
def P7 (hk:Int) (lw:List Int) (hd:Int) (rows:List Int):List (Nat×LoopAnn):=[(0,⟨Unit,(List (List UInt8))×Int,[2,5,6,7],λe x=>[.box 2 0,.lst 10,.dd 12 .out,.val (.i .i64) x.2],λe x=>[(2,.slot 2,.cells [.val (.i .i64) hk,.val (.list (.i .i64)) lw] (some 24)),(10,.slot 5,.lst 9 .st x.1 false),(12,.slot 6,.deep 47 (some 4) (.list .bo) (rows.map λr=>YA r hd.toNat) false none)]⟩),
 (2,⟨(List (List UInt8))×Int,(List UInt8)×Int,[2,5,6,7,8,9],λe x=>[.box 2 0,.lst 10,.dd 12 .out,.val (.i .i64) e.2,.val .st x.1,.val (.i .i64) x.2],λe x=>[(2,.slot 2,.cells [.val (.i .i64) hk,.val (.list (.i .i64)) lw] (some 24)),(10,.slot 5,.lst 9 .st e.1 false),(12,.slot 6,.deep 47 (some 4) (.list .bo) (rows.map λr=>YA r hd.toNat) false none)]⟩)]
theorem Hm (d:(Int×List Int)×Int×List Int):gwp (U2) (P7 d.1.1 d.1.2 d.2.1 d.2.2) c15 0 (WC [.tmp 4] (Vc d) (V9 d)) (Qr 46 (AL.can Uy d))=XI d.1.1 d.1.2 d.2.1 d.2.2:=by kernel_rfl
abbrev HO:Prop:=OkC Tryz.prog 15 Kf
theorem HI (h:∀ (hk:Int) (lw:List Int) (hd:Int) (rows:List Int),(Qb hk lw hd rows=0)->XI hk lw hd rows):OkC Tryz.prog 15 Kf :=
 QD Q2f mixed (C:=U2) (V:=λ(d:(Int×List Int)×Int×List Int)=>XI d.1.1 d.1.2 d.2.1 d.2.2) ⟨(.cons HH .nil),XsOk.nil,ItsOk.nil,YlOk.nil,IysOk.nil,XfOk.nil⟩ (Hm) λd hp=>h d.1.1 d.1.2 d.2.1 d.2.2 hp
theorem HT:HO:=HI λhk lw hd rows h=>by
 unfold XI;(try delta lI gD sT I64 Q7 v7 v6);obtain⟨e1,e2,rfl⟩:=I2 h;obtain⟨t1,t2,t3,t4,t5⟩:=Kb e1;obtain⟨p1,p2,p3,p4,p5⟩:=Kj e2;have ju:=NT p1 p2;have hC:QF hd lw hd rows=rows.map (Jj lw):=by simp[QF,h]
 rw[hC];have hT:∀ i,i<rows.length->(rows.map λr=>YA r hd.toNat).getD i []=YA (rows.getD i 0) hd.toNat:=λi hi=>by rw[Qd (by simpa using hi),Qd hi];simp
 have sF:(rows.map λr=>YA r hd.toNat).length=rows.length:=by simp
 generalize vM:(rows.map λr=>YA r hd.toNat)=T at hT sF |-
 (try simp only[zg,zn])
 refine⟨⟨by omega,λx hx=>by have:=p5 x hx;omega,by omega,by omega⟩,(),([],0),(by and_intros<;>first|rfl|trivial|simp),?_⟩;refine LoopP.count2 rows.length (λi xs=>xs=(rows.take i).map (Jj lw)) (by simp) λi xs hi hJ q hq=>?_;have eO:xs.length=i:=by rw[hJ];simp;omega
 subst hJ;dsimp only;simp only[Zd,sF];refine⟨λai=>⟨((rows.take i).map (Jj lw),(i:Int)),([],0),(by and_intros<;>first|rfl|trivial|simp),?_⟩,λbu=>?_⟩
 .have ai:i<rows.length:=by omega
  dsimp only;refine LoopP.count2 lw.length (λj s=>s=Jj (lw.take j) (rows.getD i 0)) (by simp[Jj]) λj s hj hJ q2 mL=>?_;have gJ:s.length=j:=by rw[hJ,GB];simp;omega
  dsimp only;simp only[zp,hT i ai,Aj];refine⟨λcr=>?_,λbu=>?_⟩
  .have cr:j<lw.length:=by omega
   have hx:=t5 _ (zq cr);have hs:Jj (lw.take (j+1)) (rows.getD i 0)=s++[if (rows.getD i 0).toNat.testBit (lw[j]).toNat then 120 else 46]:=by rw[Qi cr,Jj,xC,hJ];rfl
   rw[Qd cr,Fh (by omega)];simp only[zw];refine⟨by omega,by omega,by omega,by omega,by omega,by omega,λhb=>?_,λhb=>?_⟩
   .refine⟨by omega,by omega,(_,_),(by and_intros<;>first|rfl|trivial|simp),mL _ cr ?_⟩;rw[hs,z6 hb]
   .refine⟨by omega,by omega,(_,_),(by and_intros<;>first|rfl|trivial|simp),mL _ cr ?_⟩;rw[hs,hb];rfl
  .have:j=lw.length:=by omega
   subst this;rw[List.take_length] at hJ;simp only[zw];refine⟨by omega,by omega,(_,_),(by and_intros<;>first|rfl|trivial|simp),hq _ ai ?_⟩;rw[Qi ai,xC,hJ,Qd ai];rfl
 .have:i=rows.length:=by omega
  subst this;rw[List.take_length];exact(by and_intros<;>first|rfl|trivial|simp)
def Md:AL (List Int×List Int):=(.cons (.k (.list (.i .i64))) (.one (.k (.list (.i .i64)))))
def Hy (d:List Int×List Int):Prop:=d.1.length<=1000000
def Uj (d:List Int×List Int):SV:=.val .bo (d.1==d.2)
def Uk (d:List Int×List Int):List OB:=[]
def Vx:CSp:=W2 Md Hy Uj Uk
def Wp (l:List Int) (m:List Int):Prop :=
 (((lI l) != (lI m))=true ->
  (false=(l==m)/\(True))) /\
 (((lI l) != (lI m))=false ->
  ∃ (e2:Unit) (d20:Int),((l=l/\m=m/\(0:Int)=d20/\True)/\(True)) /\
  LoopP (λ(d2:Int) (q2:(Int)->Prop) =>
   ((decide (d2<(lI l)))=true ->
    (0<=d2)/\(d2<l.length)/\(0<=d2)/\(d2<m.length)/\(((gD l d2 0) != (gD m d2 0))=true ->
     (false=(l==m)/\(True))) /\
    (((gD l d2 0) != (gD m d2 0))=false ->
     (I64 (d2+(1:Int)))/\(∃ d3:Int,((l=l/\m=m/\(d2+(1:Int))=d3/\True)/\(True))/\q2 d3))) /\
   ((decide (d2<(lI l)))=false ->
    (true=(l==m)/\(True)))) d20)
def Ni:Cx:=⟨[],[],26,[],0,[],[],[],[],false,[],[],[],[]⟩
def Ru (l:List Int) (m:List Int):List (Nat×LoopAnn):=[(0,⟨Unit,Int,[0,1,5],λe x=>[.val (.list (.i .i64)) l,.val (.list (.i .i64)) m,.val (.i .i64) x],λe x=>[]⟩)]
theorem Tf (d:List Int×List Int):gwp (Ni) (Ru d.1 d.2) c17 0 (WC [.tmp 4] (Uj d) (Uk d)) (Qr 26 (AL.can Md d))=Wp d.1 d.2:=by kernel_rfl
abbrev R4:Prop:=OkC Tryz.prog 17 Vx
theorem Tb (h:∀ (l:List Int) (m:List Int),(l.length<=1000000)->Wp l m):OkC Tryz.prog 17 Vx :=
 QD Q45 mixed (C:=Ni) (V:=λ(d:List Int×List Int)=>Wp d.1 d.2) ⟨.nil,XsOk.nil,ItsOk.nil,YlOk.nil,IysOk.nil,XfOk.nil⟩ (Tf) λd hp=>h d.1 d.2 hp
theorem Rf:R4:=Tb λl m vN=>by
 unfold Wp;(try delta lI gD sT I64 Q7 v7 v6);simp only[true_and,and_true,exists_eq_left',exists_const,zg,zn,bne_iff_ne,ne_eq,bne_eq_false_iff_eq];refine⟨λh=>?_,λh=>?_⟩
 .symm;rw[zB];rintro rfl;exact h rfl
 have h:l.length=m.length:=by omega
 refine LoopP.count l.length (λk=>l.take k=m.take k) rfl λk aV hJ q hq=>?_;simp only[zp,Int.ofNat_lt,Zd];refine⟨λai=>?_,λbu=>?_⟩
 .rw[Qd ai,Qd (by omega)];refine⟨by omega,ai,by omega,by omega,λhx=>?_,λhx=>⟨by omega,hq ai ?_⟩⟩
  .symm;rw[zB];rintro rfl;exact hx rfl
  .rw[Qi ai,Qi (by omega),hJ,hx]
 .rw[zC (by omega),zC (by omega)] at hJ;simp[hJ]
end Go.Proofs.Tryz
namespace Go.V
open Go
theorem RX {α:Type}:∀ (j:Nat) (x:α) (l:List α),(RV j x l).length=l.length+1
 |0,_,_=>rfl
 |j+1,x,[]=>rfl
 |j+1,x,a::l=>by simp only[RV,xj];rw[RX j x l]
section
variable {P:Program}
theorem Gam.frzs {B F:Heap}{pl:Nat->Value}{tb:Nat->Option Bool}{env:Env}{U:Heap}:∀ (l:List Nat) {s:St},Gam P B F pl tb s env U->∃ B' F',GBase B F U B' F' U/\Gam P B' F' pl tb (s.frzs l) env U
 |[],_,h=>⟨B,F,.of h.bf (.refl _),h⟩
 |o::r,s,h=>by obtain⟨B1,F1,g1,g2⟩:=h.frz o;obtain⟨B2,F2,g3,g4⟩:=Gam.frzs r g2;exact⟨B2,F2,g1.trans g3,g4⟩
theorem An:∀ (j:Nat) {l:List SV}{c:List Value}{o:Nat}{B:Heap}{pl:Nat->Value}{tb:Nat->Option Bool},l[j]?=some (.lst o)->SRs P B pl tb l c ->
  ∃ w,SR P B pl tb (.lst o) w/\SRs P B pl tb (MA j l) (MA j c)/\∀ (B':Heap) (pl':Nat->Value) (tb':Nat->Option Bool) (l':List SV) (x:SV),SRs P B' pl' tb' l' (MA j c)->SR P B' pl' tb' x w->SRs P B' pl' tb' (RV j x l') c
 |j,[],c,o,B,pl,tb,h,_=>by simp at h
 |0,a::l,c,o,B,pl,tb,h,hs=>by
  obtain rfl:a=.lst o:=by simpa using h
  simp only[SRs] at hs;obtain⟨w,us,rfl,h1,h2⟩:=hs;exact⟨w,h1,h2,λB' pl' tb' l' x h3 h4=>by simp only[RV,SRs];exact⟨w,us,rfl,h4,h3⟩⟩
 |j+1,a::l,c,o,B,pl,tb,h,hs=>by
  simp only[SRs] at hs;obtain⟨u,us,rfl,h1,h2⟩:=hs;obtain⟨w,g1,g2,g3⟩:=An j (by simpa using h) h2;refine⟨w,g1,?_,λB' pl' tb' l' x h3 h4=>?_⟩
  .simp only[MA,SRs];exact⟨u,_,rfl,h1,g2⟩
  .simp only[MA] at h3
   match l',h3 with
   |[],h3=>simp only[SRs] at h3;cases h3
   |y::l',h3 =>
    simp only[SRs] at h3;obtain⟨u',lG,e,h5,h6⟩:=h3;obtain⟨rfl,rfl⟩:=zM e;simp only[RV,SRs]
    grind
end
end Go.V
namespace Go.V
open Go
abbrev BSp:=Ap->List SV->OB->List SV->Option (Prop×SV×List SV×OB)
def T0 (ap:Ap) (j:Nat) (t:Option Nat) (sp:BSp):XSp:=λ_ args s K =>
 match args with
 |.box q off::args=>bif Nat.beq off 0 then (match args[j]? with
  |some (.lst o) =>
   let s1:=(⟨s.env++MA j args,s.own,s.nx⟩:St).frzs (Xt (MA j args));let a1:=s1.env.drop s.env.length
   (match Qa s1.own q with
   |.cells l t'=>if t'=t then (bif SVs.pure a1&&(SVs.pure l&&(Qa s1.own o).isL) then (match sp ap l (Qa s1.own o) a1 with
    |some (c,v,l',b)=>bif v.pure&&(SVs.pure l'&&b.isL) then c/\K v ⟨s1.env.take s.env.length,oset (oset s1.own q (.cells l' t)) o b,s1.nx⟩ else False
    |none=>False) else False) else False
   |_=>False)
  |_=>False) else False
 |_=>False
def NJ (nt j:Nat) (t:Option Nat) (cs:List SV) (b:OB) (vals:List Value) (args:List SV):St:=⟨.box 0 0::(RV j (.lst 1) args++List.replicate (nt-(args.length+2)) .any),[(0,.cells cs t),(1,b),(4000000,.stk [.box 0 0,.lst 1] vals)],0⟩
def Ow (vals:List Value) (rs:List VResult) (v:SV) (t:Option Nat) (l':List SV) (b:OB):Exit->St->Prop:=λe s =>
 let fin:=match W_ s rs,Qa s.own 4000000 with
  |some r,.stk l vs=>vs=vals/\VT [(0,some 0),(1,some 1)] [.box 0 0,.lst 1] l/\D4 [] v r/\Ak s [(0,some 0),(1,some 1)] 0 (.cells l' t)/\Ak s [(0,some 0),(1,some 1)] 1 b
  |_,_=>False
 match e with
 |.normal=>fin
 |.ret=>fin
 |_=>False
section
variable {P:Program}
theorem AS {f:Nat}{vc:VCode}{rs:List VResult}{nt:Nat}(h:Fun P f vc rs nt) (hm:P.follows .mixedOrders=true) {B F:Heap}{pl:Nat->Value}{tb:Nat->Option Bool}{s:St}{env:Env}{U:Heap}{j q o:Nat}{args br cs cs' l':List SV}{us vs:List Value}{t:Option Nat}{ty:Nat}{k:Kind}{xs:List k.T}{nl:Bool}{v:SV}{b':OB}{C:Cx}{L:List Value->List (Nat×LoopAnn)}{K:SV->St->Prop}{R:Value->Heap->Prop}
  (hG:Gam P B F pl tb s env U) (mf:SVs.pure args=true) (rv:SVs.pure cs=true) (dF:SRs P B pl tb args us) (sG:SR P B pl tb (.lst o) (pl o))
  (mj:∀ (B':Heap) (pl':Nat->Value) (tb':Nat->Option Bool) (l':List SV) (x:SV),SRs P B' pl' tb' l' us->SR P B' pl' tb' x (pl o)->SRs P B' pl' tb' (RV j x l') vs) (gZ:Qa s.own q=.cells cs t) (aP:Qa s.own o=.lst ty k xs nl)
  (jg:SVs.pure br=true) (ml:∀ U vs,SRs P U J3 Zn args vs->SRs P U J3 Zn br vs) (gh:SVs.pure cs'=true) (jh:∀ U vs,SRs P U J3 Zn cs vs->SRs P U J3 Zn cs' vs) (aw:COk P C)
  (hg:∀ vals,gwp C (L vals) vc 0 (Ow vals rs v t l' b') (NJ nt j t cs' (.lst ty k xs nl) vals br)) (cA:v.pure=true/\SVs.pure l'=true/\b'.isL=true)
  (hx:K v ⟨s.env,oset (oset s.own q (.cells l' t)) o b',s.nx⟩) (hK:∀ v s' B' F' pl' tb' u U',K v s'->GBase B F U B' F' U'->Gam P B' F' pl' tb' s' env U'->SR P B' pl' tb' v u->R u U'):VCalled P f (pl q::vs) U R:=by
 have eY:(Qa s.own o).live=true:=by rw[aP];rfl
 have eZ:(Qa s.own q).live=true:=by rw[gZ];rfl
 have sH:q≠o:=λe=>by rw[e,aP] at gZ;cases gZ
 have ah:=hG.obj o;rw[aP] at ah;have sI:=hG.obj q;rw[gZ] at sI;obtain⟨iq,cq,eq,tq,pw,dh,uY,gp⟩:=sI;simp only[SR] at sG;obtain⟨-,hs⟩:=sG;have hid:∀ i,oid (pl o)=some i->F.get i=none:=λi hi=>hG.fresh o i eY (UO hi);have ry:∀ i,oid (pl o)=some i->B.get i=none:=λi hi=>by
  cases hg:B.get i with
  |none=>rfl
  |some b=>have:=hG.bf.2 _ _ hg;rw[hid i hi] at this;cases this
 have sJ:∀ i,oid (pl q)=some i->F.get i=none:=λi hi=>hG.fresh q i eZ (UO hi);have rz:∀ i,oid (pl q)=some i->B.get i=none:=λi hi=>by
  cases hg:B.get i with
  |none=>rfl
  |some b=>have:=hG.bf.2 _ _ hg;rw[sJ i hi] at this;cases this
 have dV:∀ l,pl o≠.tuple l:=(by grind);have mq:∀ (B:Heap) (pl':Nat->Value) (tb':Nat->Option Bool),(SR P B pl' tb' (.lst 1) (pl o)<->pl' 1=pl o):=λB pl' tb'=>by
  simp only[SR]
  grind
 have ji:∀ (B:Heap) (pl':Nat->Value) (tb':Nat->Option Bool),(SR P B pl' tb' (.box 0 0) (pl q)<->pl' 0=pl q):=λB pl' tb'=>by
  simp only[SR];rw[pw];constructor
  .rintro⟨b,h1,h2⟩;rw[h1,<-h2]
  .intro h;exact⟨iq,h,rfl⟩
 have hg:=hg [pl q,pl o];let σ1:=ML U (pl q);let σc:=ML σ1 (pl o);have mb:B.Le σ1:=D7 hG.leB rz;have uZ:F.Le σ1:=D7 hG.le sJ;have u4:B.Le σc:=D7 mb ry;have sK:F.Le σc:=D7 uZ hid;have bm:∀ i,oid (pl q)≠some i->oid (pl o)≠some i->σc.get i=U.get i:=λi h1 h2=>by show (ML (ML U (pl q)) (pl o)).get i=_;rw[RU h2,RU h1]
 have av:SRs P B J3 Zn br us:=ml B us (Qx _ _ mf dF);have cj:SRs P B J3 Zn cs' cq:=jh B cq (Qx _ _ rv uY);let g_:Nat->Value:=λd=>if d=0 then pl q else if d=1 then pl o else poison
 have bX:∀ d,(Qa (NJ nt j t cs' (.lst ty k xs nl) [pl q,pl o] br).own d).live=true->d=0\/d=1:=λd h1=>by
  simp only[NJ,Qa] at h1;by_cases e0:d=0
  .exact .inl e0
  .rw[Z2 (λe=>e0 e.symm),cond_false] at h1;by_cases e1:d=1
   .exact .inr e1
   .rw[Z2 (λe=>e1 e.symm),cond_false] at h1;by_cases e2:d=4000000
    .subst e2;cases h1
    .rw[Z2 (λe=>e2 e.symm),cond_false] at h1;cases h1
 have bK:GRel P B σc U (NJ nt j t cs' (.lst ty k xs nl) [pl q,pl o] br) (pl q::vs++List.replicate (nt-(pl q::vs).length) undef) U:=by
  refine⟨B,σc,g_,Zn,⟨.refl _,.refl _,λ_ _ _ h=>h,.refl _⟩,u4,(TP _ _).trans (TP _ _),?_,λd=>?_,λd i h1 h2=>?_,λd d' i aK h1 h2 h3 h4=>?_,λ_ _=>rfl⟩
  .have h0:=mj B g_ Zn br (.lst 1) (Qx _ _ jg av) ((mq _ _ _).2 (by simp[g_]));have hl:=h0.length;rw[RX] at hl;simp only[NJ,SRs,xw];refine⟨pl q,_,rfl,(ji _ _ _).2 (by simp[g_]),?_⟩;rw[xj,<-hl];exact SRs.append h0 (Rc _)
  .simp only[NJ,Qa];by_cases e0:d=0
   .subst e0;simp only[Nat.beq_refl,zh];exact⟨iq,cq,eq,tq,by simpa [g_] using pw,dh,Qx _ _ gh cj,gp⟩
   .rw[Z2 (λe=>e0 e.symm),cond_false];by_cases e1:d=1
    .subst e1;simp only[Nat.beq_refl,zh];exact ah
    .rw[Z2 (λe=>e1 e.symm),cond_false];by_cases e2:d=4000000
     .subst e2;simp only[Nat.beq_refl,zh];exact⟨pl q,_,rfl,(ji _ _ _).2 (by simp[g_]),pl o,[],rfl,(mq _ _ _).2 (by simp[g_]),rfl⟩
     .rw[Z2 (λe=>e2 e.symm),cond_false];trivial
  .rcases bX d h1 with rfl|rfl
   .have:Oid (pl q) i:=by simpa [g_] using h2
    rw[pw] at this;obtain rfl:iq=i:=osj this;have h0:(ML U (pl q)).get iq=none:=Pm (by rw[pw];rfl);cases hh:σc.get iq with
    |none=>rfl
    |some b=>have:=(TP σ1 (pl o)).2 _ _ hh;rw[h0] at this;cases this
   .have:Oid (pl o) i:=by simpa [g_] using h2
    exact Pm (by grind [Q1c])
  .rcases bX d h1 with rfl|rfl<;>rcases bX d' h2 with rfl|rfl
   .exact aK rfl
   .exact hG.sep q o i sH eZ eY (by simpa [g_] using h3) (by simpa [g_] using h4)
   .exact hG.sep q o i sH eZ eY (by simpa [g_] using h4) (by simpa [g_] using h3)
   .exact aK rfl
 refine h.calls hm T_ ?_;refine Nb aw vc 0 _ _ _ U none _ trivial bK hg λe s' ae U' h1 h2=>?_
 have main:(match W_ s' rs,Qa s'.own 4000000 with
  |some r,.stk l vs=>vs=[pl q,pl o]/\VT [(0,some 0),(1,some 1)] [.box 0 0,.lst 1] l/\D4 [] v r/\Ak s' [(0,some 0),(1,some 1)] 0 (.cells l' t)/\Ak s' [(0,some 0),(1,some 1)] 1 b'
  |_,_=>False)->QM (J1 ae U' rs) λv=>∃ v' aI,DropTo U v U' v' aI/\R v' aI:=λh=>by
  obtain⟨B',F',pl',tb',k1,k2⟩:=h2;split at h
  .rename_i r l cG hr jd;obtain⟨rfl,m1,m2,m3,m4⟩:=h;obtain⟨w,h3,h4⟩:=XD k2 hr;rw[h3];have kQ:=k2.obj 4000000;rw[jd] at kQ;have oJ:pl' 0=pl q/\pl' 1=pl o:=by
    have:=Z6 [.box 0 0,.lst 1] l [pl q,pl o] m1 kQ;simp only[SRs] at this;obtain⟨u',w',dG,h5,u2,w2,jM,h6,_⟩:=this;obtain⟨g1,g2⟩:=zM dG;rw[<-g2] at jM;obtain⟨g3,-⟩:=zM jM;rw[<-g1] at h5;rw[<-g3] at h6;have a1:=(ji _ _ _).1 h5;have a2:=(mq _ _ _).1 h6;exact⟨a1,a2⟩
   obtain⟨oK,kR⟩:=Qs k2 m3;obtain⟨oL,kS⟩:=Qs k2 m4;have dj:YS pl' [(0,some 0),(1,some 1)] 0=pl q:=oJ.1;have mI:YS pl' [(0,some 0),(1,some 1)] 1=pl o:=oJ.2;rw[dj] at oK kR;rw[mI] at oL kS;have eu:=Mr (pl':=pl) (tb':=tb) v w cA.1 (Wq v r w m2 h4);have hle:σc.Le U':=k1.f.trans k2.le;have ez:B'.Le U':=k2.leB;obtain⟨fy,gQ,bN,gP,rfl⟩:=OB.q1r cA.2.2;have ck:∀ d,d≠o->d≠q->(Qa s.own d).live=true->∀ i,Oid (pl d) i->B'.get i=none/\U'.get i=U.get i:=λd e e' hl i hi=>by
    have ai:=(hG.obj d).q0s hl hi;have lA:oid (pl o)≠some i:=λlA=>hG.sep d o i e hl eY hi (UO lA);have u5:oid (pl q)≠some i:=λlA=>hG.sep d q i e' hl eZ hi (UO lA);cases hg:U.get i with
    |none =>
     have hn:=k1.d.2 i ai hg;refine⟨?_,hn⟩;cases bD:B'.get i with
     |none=>rfl
     |some bb=>have:=ez.2 _ _ bD;rw[hn] at this;cases this
    |some bb =>
     have cO:σc.get i=some bb:=by rw[bm i u5 lA];exact hg
     refine⟨k1.x i bb cO ?_,hle.2 _ _ cO⟩;cases bD:B.get i with
     |none=>rfl
     |some b2=>have:=hG.bf.2 _ _ bD;rw[hG.fresh d i hl hi] at this;cases this
   have gC:∀ (p:Value),(∀ i,Oid p i->∃ a,(Qa s'.own a).live=true/\Oid (pl' a) i)->∀ i,Oid p i->B'.get i=none:=λp hp i hi=>by
    obtain⟨a,e2,e3⟩:=hp i hi;have:=k2.fresh a i e2 e3;cases bD:B'.get i with
    |none=>rfl
    |some b2=>have h9:=k2.bf.2 _ _ bD;rw[this] at h9;cases h9
   have u6:=gC (pl o) λi hi=>by obtain⟨a,_,e2,e3⟩:=kS rfl i hi;exact⟨a,e2,e3⟩
   have eN:=gC (pl q) λi hi=>by obtain⟨a,_,e2,e3⟩:=kR rfl i hi;exact⟨a,e2,e3⟩
   have gX:F.Le U':=sK.trans hle;have lv:∀ d,(Qa (oset (oset s.own q (.cells l' t)) o (.lst fy gQ bN gP)) d).live=true->(Qa s.own d).live=true:=λd h=>by
    simp only[Qc] at h
    grind
   refine⟨w,U',.refl _ _ _,hK v _ B' (B'.over F) pl tb w U' hx (.over k1.b ez gX (λi b e1 e2=>k1.x i b (sK.2 _ _ e1) e2) k1.d) ⟨Heap.q1y,Heap.q2a ez gX,SRs.mono k1.b (λ_ _ h=>h) _ _ hG.env,λd=>?_,λd i q1 q2=>?_,λd d' i aK q1 q2 q3 q4=>?_,hG.free⟩ eu⟩
   .simp only[Qc];by_cases e:d=o
    .subst e;rw[z6 rfl];exact oL
    .rw[z7 e];by_cases e':d=q
     .subst e';rw[z6 rfl];obtain⟨i,c,e1,t1,g1,g2,g3,g4⟩:=oK;exact⟨i,c,e1,t1,g1,g2,Qx _ _ cA.2.1 g3,g4⟩
     .rw[z7 e'];exact(hG.obj d).mono k1.b (λ_ _ h=>h) λhl i hi=>(ck d e e' hl i hi).2
   .have sL:=lv d q1;refine Heap.q1q ?_ (hG.fresh d i sL q2);by_cases e:d=o
    .subst e;exact u6 i q2
    .by_cases e':d=q
     .subst e';exact eN i q2
     .exact(ck d e e' sL i q2).1
   .exact hG.sep d d' i aK (lv d q1) (lv d' q2) q3 q4
  .exact h.elim
 cases e with
 |normal=>exact main h1
 |ret=>exact main h1
 |_=>exact h1.elim
theorem CP {f:Nat}{vc:VCode}{rs:List VResult}{nt:Nat}(h:Fun P f vc rs nt) (hm:P.follows .mixedOrders=true) {sp:BSp}{ap:Ap}{j:Nat}{t:Option Nat}
  (hb:∀ l b args c v l' b',sp ap l b args=some (c,v,l',b')->b.isL=true->c->∃ (C:Cx) (L:List Value->List (Nat×LoopAnn)) (br cs':List SV),SVs.pure br=true/\(∀ U vs,SRs P U J3 Zn args vs->SRs P U J3 Zn br vs)/\SVs.pure cs'=true/\(∀ U vs,SRs P U J3 Zn l vs->SRs P U J3 Zn cs' vs)/\COk P C/\∀ vals,gwp C (L vals) vc 0 (Ow vals rs v t l' b') (NJ nt j t cs' b vals br)):XOk P f (T0 ap j t sp):=by
 intro B F pl tb s env U d args vs K R hG ha hx hK;unfold T0 at hx;split at hx
 .rename_i q off args;cases bg:Nat.beq off 0 with
  |false=>rw[bg] at hx;exact hx.elim
  |true =>
  rw[bg] at hx;obtain rfl:=zP bg;simp only[zh] at hx;split at hx
  .rename_i o iO;simp only[SRs] at ha;obtain⟨u,us,rfl,sM,ha⟩:=ha;obtain⟨w,hw,rA,mj⟩:=An j iO ha;have ra:Gam P B F pl tb ⟨s.env++MA j args,s.own,s.nx⟩ (env++MA j us) U:=⟨hG.bf,hG.le,hG.env.append rA,hG.obj,hG.fresh,hG.sep,hG.free⟩;obtain⟨B1,F1,pq,dP⟩:=Gam.frzs (Xt (MA j args)) ra;generalize ((⟨s.env++MA j args,s.own,s.nx⟩:St).frzs (Xt (MA j args)))=s1 at hx dP;have hlen:s.env.length=env.length:=hG.env.length;obtain⟨ic,jr⟩:=SRs.split dP.env;rw[hlen] at hx;have er:Gam P B1 F1 pl tb ⟨s1.env.take env.length,s1.own,s1.nx⟩ env U:=⟨dP.bf,dP.le,ic,dP.obj,dP.fresh,dP.sep,dP.free⟩;generalize s1.env.drop env.length=a1 at hx jr;split at hx
   .rename_i l t' gZ;split at hx
    .rename_i et;subst et;cases jU:(SVs.pure a1&&(SVs.pure l&&(Qa s1.own o).isL)) with
     |false=>rw[jU] at hx;exact hx.elim
     |true =>
     rw[jU] at hx;simp only[zh] at hx;simp only[z1] at jU;obtain⟨mf,rv,oM⟩:=jU;split at hx
     .rename_i c v l' b' eK;cases cA:(v.pure&&(SVs.pure l'&&b'.isL)) with
      |false=>rw[cA] at hx;exact hx.elim
      |true =>
      rw[cA] at hx;obtain⟨hc,hx⟩:=hx;simp only[z1] at cA;obtain⟨C,L,br,cs',jg,ml,gh,jh,aw,hg⟩:=hb _ _ _ c v l' b' eK oM hc;obtain⟨ty,k,xs,nl,aP⟩:=OB.q1r oM;rw[aP] at hg;have o3:SR P B1 pl tb (.lst o) w:=SR.mono pq.b (λ_ _ h=>h) _ _ hw;obtain rfl:w=pl o:=by simp only[SR] at hw;exact hw.1
      obtain rfl:u=pl q:=by simp only[SR] at sM;obtain⟨b,h1,h2⟩:=sM;rw[h1,h2]
      exact AS h hm er mf rv jr o3 mj gZ aP jg ml gh jh aw hg cA hx λv s' B' F' pl' tb' u U' k1 k2=>hK v s' B' F' pl' tb' u U' k1 (pq.trans k2)
     .exact hx.elim
    .exact hx.elim
   .exact hx.elim
  .exact hx.elim
 .exact hx.elim
def II (ty:Nat) (k:Kind) {E D:Type}(lc:AL E) (la:AL D) (pre:List k.T->Bool->E->D->Prop) (res:List k.T->Bool->E->D->SV) (iv:List k.T->Bool->E->D->List SV) (post:List k.T->Bool->E->D->List k.T):BSp:=λap cs b args=>match b with
 |.lst fy _k' xs nl=>if fy=ty then (match YM xs k,AL.dec ap lc cs,AL.dec ap la args with
  |some xs,some e,some d=>some (pre xs nl e d,res xs nl e d,iv xs nl e d,.lst ty k (post xs nl e d) nl)
  |_,_,_=>none) else none
 |_=>none
theorem L9 {ap:Ap}{ty:Nat}{k:Kind}{E D:Type}{lc:AL E}{la:AL D}{pre:List k.T->Bool->E->D->Prop}{res:List k.T->Bool->E->D->SV}{iv:List k.T->Bool->E->D->List SV}{post:List k.T->Bool->E->D->List k.T}{cs:List SV}{b:OB}{args:List SV}{c:Prop}{v:SV}{l':List SV}{b':OB}
  (h:II ty k lc la pre res iv post ap cs b args=some (c,v,l',b')):∃ xs nl e d,b=.lst ty k xs nl/\AL.dec ap lc cs=some e/\AL.dec ap la args=some d/\c=pre xs nl e d/\v=res xs nl e d/\l'=iv xs nl e d/\b'=.lst ty k (post xs nl e d) nl:=by
 unfold II at h;split at h
 .rename_i fy k' xs nl;split at h
  .rename_i e0;subst e0;split at h
   .rename_i ys e d h1 h2 h3;obtain⟨rfl,rfl,rfl,rfl⟩:=(by simpa using h:pre ys nl e d=c/\res ys nl e d=v/\iv ys nl e d=l'/\OB.lst fy k (post ys nl e d) nl=b');unfold YM at h1;split at h1
    .rename_i e1;subst e1
     grind
    .cases h1
   .cases h
  .cases h
 .cases h
theorem Ij {f:Nat}{vc:VCode}{rs:List VResult}{nt:Nat}(h:Fun P f vc rs nt) (hm:P.follows .mixedOrders=true) {ap:Ap}(dW:O4 P ap) {t:Option Nat}{ty j:Nat}{k:Kind}{E D:Type}{lc:AL E}{la:AL D}{pre:List k.T->Bool->E->D->Prop}{res:List k.T->Bool->E->D->SV}{iv:List k.T->Bool->E->D->List SV}{post:List k.T->Bool->E->D->List k.T}{μ:List k.T->E->D->Nat}
  {C:Cx}(aw:COk P C) (oe:Qp C.xf f=none) {L:List k.T->Bool->E->D->List Value->List (Nat×LoopAnn)}{V:Nat->List k.T->Bool->E->D->Prop}
  (hq:∀ n xs nl e d,(∀ vals,gwp {C with xs:=(f,T0 ap j t (II ty k lc la (λxs nl e d=>pre xs nl e d/\μ xs e d<n) res iv post))::C.xs} (L xs nl e d vals) vc 0 (Ow vals rs (res xs nl e d) t (iv xs nl e d) (.lst ty k (post xs nl e d) nl)) (NJ nt j t (AL.can lc e) (.lst ty k xs nl) vals (AL.can la d)))=V n xs nl e d)
  (hb:∀ n xs nl e d,pre xs nl e d->μ xs e d=n->V n xs nl e d):XOk P f (T0 ap j t (II ty k lc la pre res iv post)):=by
 have sN:∀ (x:XSp) g q,Qp C.xf g=some q->∀ y,Qp ((f,x)::C.xs) g=some y->Q5a P g y q:=λx g q hg y hy=>by
  simp only[Qp] at hy;cases hb:Nat.beq f g with
  |true=>obtain rfl:=zP hb;rw[oe] at hg;cases hg
  |false=>rw[hb] at hy;exact aw.xf g q hg y hy
 have key:∀ n,XOk P f (T0 ap j t (II ty k lc la (λxs nl e d=>pre xs nl e d/\μ xs e d<n) res iv post)):=by
  intro n;induction n using Nat.strongRecOn with
  |ind n ih =>refine CP h hm λl b args c v l' b' hs _ hc=>?_;obtain⟨xs,nl,e,d,rfl,h2,h3,rfl,rfl,rfl,rfl⟩:=L9 hs;obtain⟨hp,hn⟩:=hc;exact⟨{C with xs:=(f,T0 ap j t (II ty k lc la (λbN gP e' d'=>pre bN gP e' d'/\μ bN e' d'<μ xs e d) res iv post))::C.xs},L xs nl e d,AL.can la d,AL.can lc e,AL.q0l la d,λU vs hv=>AL.q0k dW la h3 hv,AL.q0l lc e,λU vs hv=>AL.q0k dW lc h2 hv,⟨aw.cs,XsOk.cons (ih _ hn) aw.xs,aw.it,aw.yl,aw.iy,sN _⟩,(by grind)⟩
 refine CP h hm λl b args c v l' b' hs _ hc=>?_;obtain⟨xs,nl,e,d,rfl,h2,h3,rfl,rfl,rfl,rfl⟩:=L9 hs;exact⟨{C with xs:=(f,T0 ap j t (II ty k lc la (λbN gP e' d'=>pre bN gP e' d'/\μ bN e' d'<μ xs e d) res iv post))::C.xs},L xs nl e d,AL.can la d,AL.can lc e,AL.q0l la d,λU vs hv=>AL.q0k dW la h3 hv,AL.q0l lc e,λU vs hv=>AL.q0k dW lc h2 hv,⟨aw.cs,XsOk.cons (key (μ xs e d)) aw.xs,aw.it,aw.yl,aw.iy,sN _⟩,(by grind)⟩
end
end Go.V
namespace Go.Proofs.Tryz
open Go Go.V Go.Proofs
def W6:AL ((Int×List Int×List (List UInt8)×List (List UInt8)×List Int×Int×Int)×Int×Int):=(.cons (.ptr (.cons (.k (.i .i64)) (.cons (.k (.list (.i .i64))) (.cons (.k (.list .st)) (.cons (.k (.list .st)) (.cons (.k (.list (.i .i64))) (.cons (.k (.i .i64)) (.one (.k (.i .i64)))))))))) (.cons (.k (.i .i64)) (.one (.k (.i .i64)))))
def KY (d:(Int×List Int×List (List UInt8)×List (List UInt8)×List Int×Int×Int)×Int×Int):Prop:=d.1.2.2.2.1.length<=1000/\d.1.2.2.1.length=d.1.2.2.2.1.length/\0<=d.2.1/\0<=d.2.2/\(∀ s∈d.1.2.2.2.1,d.2.1<s.length)/\(∀ s∈d.1.2.2.1,d.2.2<s.length)
def XU (d:(Int×List Int×List (List UInt8)×List (List UInt8)×List Int×Int×Int)×Int×Int):SV:=.val .bo (Kz d.1.2.2.1 d.1.2.2.2.1 d.2.1.toNat d.2.2.toNat)
def XR (d:(Int×List Int×List (List UInt8)×List (List UInt8)×List Int×Int×Int)×Int×Int):List OB:=[]
def JN:CSp:=W2 W6 KY XU XR
def Zt (hk:Int) (lw:List Int) (rg:List (List UInt8)) (sn:List (List UInt8)) (bs:List Int) (w0:Int) (mn:Int) (wp:Int) (ep:Int):Prop :=
 ∃ (e2:Unit) (d20:Int),(((SV.cp [.val (.i .i64) hk,.val (.list (.i .i64)) lw,.val (.list .st) rg,.val (.list .st) sn,.val (.list (.i .i64)) bs,.val (.i .i64) w0,.val (.i .i64) mn] 0=SV.cp [.val (.i .i64) hk,.val (.list (.i .i64)) lw,.val (.list .st) rg,.val (.list .st) sn,.val (.list (.i .i64)) bs,.val (.i .i64) w0,.val (.i .i64) mn] 0/\SVs.pure [.val (.i .i64) hk,.val (.list (.i .i64)) lw,.val (.list .st) rg,.val (.list .st) sn,.val (.list (.i .i64)) bs,.val (.i .i64) w0,.val (.i .i64) mn]=true)/\wp=wp/\ep=ep/\(0:Int)=d20/\True)/\(True)) /\
 LoopP (λ(d2:Int) (q2:(Int)->Prop) =>
  ((decide (d2<(lI sn)))=true ->
   (0<=d2)/\(d2<sn.length)/\(0<=wp)/\(wp<(List.length (gD sn d2 [])))/\(0<=d2)/\(d2<rg.length)/\(0<=ep)/\(ep<(List.length (gD rg d2 [])))/\((((UInt8.toNat (gD (gD sn d2 []) wp 0):Nat):Int) != ((UInt8.toNat (gD (gD rg d2 []) ep 0):Nat):Int))=true ->
    (false=(Kz rg sn wp.toNat ep.toNat)/\(True))) /\
   ((((UInt8.toNat (gD (gD sn d2 []) wp 0):Nat):Int) != ((UInt8.toNat (gD (gD rg d2 []) ep 0):Nat):Int))=false ->
    (I64 (d2+(1:Int)))/\(∃ d3:Int,(((SV.cp [.val (.i .i64) hk,.val (.list (.i .i64)) lw,.val (.list .st) rg,.val (.list .st) sn,.val (.list (.i .i64)) bs,.val (.i .i64) w0,.val (.i .i64) mn] 0=SV.cp [.val (.i .i64) hk,.val (.list (.i .i64)) lw,.val (.list .st) rg,.val (.list .st) sn,.val (.list (.i .i64)) bs,.val (.i .i64) w0,.val (.i .i64) mn] 0/\SVs.pure [.val (.i .i64) hk,.val (.list (.i .i64)) lw,.val (.list .st) rg,.val (.list .st) sn,.val (.list (.i .i64)) bs,.val (.i .i64) w0,.val (.i .i64) mn]=true)/\wp=wp/\ep=ep/\(d2+(1:Int))=d3/\True)/\(True))/\q2 d3))) /\
  ((decide (d2<(lI sn)))=false ->
   (true=(Kz rg sn wp.toNat ep.toNat)/\(True)))) d20
def W5:Cx:=⟨[],[],36,[],0,[],[],[],[],false,[],[],[],[]⟩
def VW (hk:Int) (lw:List Int) (rg:List (List UInt8)) (sn:List (List UInt8)) (bs:List Int) (w0:Int) (mn:Int) (wp:Int) (ep:Int):List (Nat×LoopAnn):=[(0,⟨Unit,Int,[0,1,2,7],λe x=>[.cp [.val (.i .i64) hk,.val (.list (.i .i64)) lw,.val (.list .st) rg,.val (.list .st) sn,.val (.list (.i .i64)) bs,.val (.i .i64) w0,.val (.i .i64) mn] 0,.val (.i .i64) wp,.val (.i .i64) ep,.val (.i .i64) x],λe x=>[]⟩)]
theorem VQ (d:(Int×List Int×List (List UInt8)×List (List UInt8)×List Int×Int×Int)×Int×Int):gwp (W5) (VW d.1.1 d.1.2.1 d.1.2.2.1 d.1.2.2.2.1 d.1.2.2.2.2.1 d.1.2.2.2.2.2.1 d.1.2.2.2.2.2.2 d.2.1 d.2.2) c37 0 (WC [.tmp 6] (XU d) (XR d)) (Qr 36 (AL.can W6 d))=Zt d.1.1 d.1.2.1 d.1.2.2.1 d.1.2.2.2.1 d.1.2.2.2.2.1 d.1.2.2.2.2.2.1 d.1.2.2.2.2.2.2 d.2.1 d.2.2:=by kernel_rfl
abbrev VO:Prop:=OkC Tryz.prog 37 JN
theorem VU (h:∀ (hk:Int) (lw:List Int) (rg:List (List UInt8)) (sn:List (List UInt8)) (bs:List Int) (w0:Int) (mn:Int) (wp:Int) (ep:Int),(sn.length<=1000/\rg.length=sn.length/\0<=wp/\0<=ep/\(∀ s∈sn,wp<s.length)/\(∀ s∈rg,ep<s.length))->Zt hk lw rg sn bs w0 mn wp ep):OkC Tryz.prog 37 JN :=
 QD Q4d mixed (C:=W5) (V:=λ(d:(Int×List Int×List (List UInt8)×List (List UInt8)×List Int×Int×Int)×Int×Int)=>Zt d.1.1 d.1.2.1 d.1.2.2.1 d.1.2.2.2.1 d.1.2.2.2.2.1 d.1.2.2.2.2.2.1 d.1.2.2.2.2.2.2 d.2.1 d.2.2) ⟨.nil,XsOk.nil,ItsOk.nil,YlOk.nil,IysOk.nil,XfOk.nil⟩ (VQ) λd hp=>h d.1.1 d.1.2.1 d.1.2.2.1 d.1.2.2.2.1 d.1.2.2.2.2.1 d.1.2.2.2.2.2.1 d.1.2.2.2.2.2.2 d.2.1 d.2.2 hp
theorem VR:VO:=VU λhk lw rg sn bs w0 mn w e hp=>by
 obtain⟨h1,h2,h3,h4,h5,h6⟩:=hp;unfold Zt;(try delta lI gD sT I64 Q7 v7 v6)
 (try simp only[zg,zn])
 refine⟨(),0,(by and_intros<;>first|rfl|trivial|simp),?_⟩;refine LoopP.count sn.length (λk=>∀ j,j<k->(sn.getD j []).getD w.toNat 0=(rg.getD j []).getD e.toNat 0) (λj hj=>by omega) λi hi hJ q hq=>?_;simp only[Zd,zp];refine⟨λai=>?_,λbu=>?_⟩
 .have ai:i<sn.length:=by omega
  have m1:=h5 _ (zq ai);have m2:=h6 _ (zq (show i<rg.length by omega));have g1:=Qd (d:=[]) ai;have g2:=Qd (d:=[]) (show i<rg.length by omega);rw[<-g1] at m1;rw[<-g2] at m2;refine⟨by omega,by omega,by omega,by omega,by omega,by omega,by omega,by omega,λhb=>?_,λhb=>⟨by omega,(i:Int)+1,(by and_intros<;>first|rfl|trivial|simp),hq ai λj hj=>?_⟩⟩
  .refine⟨Eq.symm ?_,trivial⟩;rw[Kz,List.all_eq_false];refine⟨i,zL.2 ai,λc=>?_⟩;rw[zj] at c;rw[c] at hb;simp at hb
  .by_cases c:j<i
   .exact hJ j c
   .obtain rfl:j=i:=by omega
    rw[bne_eq_false_iff_eq] at hb;exact UInt8.toNat_inj.1 (by omega)
 .refine⟨Eq.symm ?_,trivial⟩;rw[Kz,zf];intro j hj;rw[zj];exact hJ j (by have:=zL.1 hj;omega)
def Jp:AL (Int×List Int×List (List UInt8)×List (List UInt8)×List Int×Int×Int):=(.cons (.k (.i .i64)) (.cons (.k (.list (.i .i64))) (.cons (.k (.list .st)) (.cons (.k (.list .st)) (.cons (.k (.list (.i .i64))) (.cons (.k (.i .i64)) (.one (.k (.i .i64)))))))))
def Js:AL (List Int×Int):=(.cons (.k (.list (.i .i64))) (.one (.k (.i .i64))))
def W8 (us:List Bool) (nl:Bool) (c:Int×List Int×List (List UInt8)×List (List UInt8)×List Int×Int×Int) (a:List Int×Int):Prop:=c.2.1.length<=7/\us.length=c.2.1.length/\a.1.length<=c.2.1.length/\c.2.2.2.1.length<=1000/\c.2.2.1.length=c.2.2.2.1.length/\(∀ s∈c.2.2.2.1,s.length=c.2.1.length)/\(∀ s∈c.2.2.1,s.length=c.2.1.length)/\0<=a.2/\a.2<=a.1.length/\0<=c.2.2.2.2.2.2/\c.2.2.2.2.2.2+(c.2.1.length ^ (c.2.1.length-a.1.length):Nat)<=1000000000
def Jr (us:List Bool) (nl:Bool) (c:Int×List Int×List (List UInt8)×List (List UInt8)×List Int×Int×Int) (a:List Int×Int):SV:=.tup []
def Jo (us:List Bool) (nl:Bool) (c:Int×List Int×List (List UInt8)×List (List UInt8)×List Int×Int×Int) (a:List Int×Int):List SV:=[.val (.i .i64) c.1,.val (.list (.i .i64)) c.2.1,.val (.list .st) c.2.2.1,.val (.list .st) c.2.2.2.1,.val (.list (.i .i64)) ((N1 c.2.1 c.2.2.1 c.2.2.2.1 (c.2.1.length-a.1.length) a.1 us a.2 (c.2.2.2.2.1,(c.2.2.2.2.2.1,c.2.2.2.2.2.2))).1),.val (.i .i64) ((N1 c.2.1 c.2.2.1 c.2.2.2.1 (c.2.1.length-a.1.length) a.1 us a.2 (c.2.2.2.2.1,(c.2.2.2.2.2.1,c.2.2.2.2.2.2))).2.1),.val (.i .i64) ((N1 c.2.1 c.2.2.1 c.2.2.2.1 (c.2.1.length-a.1.length) a.1 us a.2 (c.2.2.2.2.1,(c.2.2.2.2.2.1,c.2.2.2.2.2.2))).2.2)]
def J5 (us:List Bool) (nl:Bool) (c:Int×List Int×List (List UInt8)×List (List UInt8)×List Int×Int×Int) (a:List Int×Int):List Bool:=us
def WW (us:List Bool) (c:Int×List Int×List (List UInt8)×List (List UInt8)×List Int×Int×Int) (a:List Int×Int):Nat:=c.2.1.length-a.1.length
def X1:XSp:=T0 Ae 1 (some 45) (II 4 .bo Jp Js W8 Jr Jo J5)
def ZM (dQ:Nat) (us:List Bool) (nl:Bool) (hk:Int) (lw:List Int) (rg:List (List UInt8)) (sn:List (List UInt8)) (bs:List Int) (w0:Int) (mn:Int) (l:List Int) (wr:Int):Prop:=∀ vals:List Value,
 (((lI l)==(lI lw))=true ->
  (((mn==(0:Int))||(decide (wr<w0)))=true ->
   (((List.length ([]:List Int))+l.length)*8<=70368744177664)/\(I64 (mn+(1:Int)))/\(vals=vals/\(True/\True/\(([]:List SV)=[]))/\((([]:List SV)=[]))/\(hk=hk/\lw=lw/\rg=rg/\sn=sn/\(([]:List Int)++l)=((N1 lw rg sn (lw.length-l.length) l us wr (bs,(w0,mn))).1)/\wr=((N1 lw rg sn (lw.length-l.length) l us wr (bs,(w0,mn))).2.1)/\(mn+(1:Int))=((N1 lw rg sn (lw.length-l.length) l us wr (bs,(w0,mn))).2.2)/\(([]:List SV)=[]))/\(us=us/\nl=nl))) /\
  (((mn==(0:Int))||(decide (wr<w0)))=false ->
   (I64 (mn+(1:Int)))/\(vals=vals/\(True/\True/\(([]:List SV)=[]))/\((([]:List SV)=[]))/\(hk=hk/\lw=lw/\rg=rg/\sn=sn/\bs=((N1 lw rg sn (lw.length-l.length) l us wr (bs,(w0,mn))).1)/\w0=((N1 lw rg sn (lw.length-l.length) l us wr (bs,(w0,mn))).2.1)/\(mn+(1:Int))=((N1 lw rg sn (lw.length-l.length) l us wr (bs,(w0,mn))).2.2)/\(([]:List SV)=[]))/\(us=us/\nl=nl)))) /\
 (((lI l)==(lI lw))=false ->
  ∃ (e3:Unit) (d30:(List Int)×Int×Int×(List Bool)×Int),((True/\l=l/\True/\wr=wr/\(lI l)=(lI l)/\(0:Int)=(v6 d30)/\True)/\((hk=hk/\lw=lw/\rg=rg/\sn=sn/\bs=d30.1/\w0=d30.2.1/\mn=d30.2.2.1/\(([]:List SV)=[]))/\(us=d30.2.2.2.1/\nl=nl)/\(vals=vals/\(True/\True/\(([]:List SV)=[])))/\True)) /\
  LoopP (λ(d3:(List Int)×Int×Int×(List Bool)×Int) (q3:((List Int)×Int×Int×(List Bool)×Int)->Prop) =>
   ((decide ((v6 d3)<(lI lw)))=true ->
    (0<=(v6 d3))/\((v6 d3)<d3.2.2.2.1.length)/\((gD d3.2.2.2.1 (v6 d3) false)=false->sn.length<=1000/\rg.length=sn.length/\0<=(lI l)/\0<=(v6 d3)/\(∀ s∈sn,(lI l)<s.length)/\(∀ s∈rg,(v6 d3)<s.length))/\(((gD d3.2.2.2.1 (v6 d3) false)||(!(Kz rg sn (lI l).toNat (v6 d3).toNat)))=true ->
     (I64 ((v6 d3)+(1:Int)))/\(∃ d4:(List Int)×Int×Int×(List Bool)×Int,((True/\l=l/\True/\wr=wr/\(lI l)=(lI l)/\((v6 d3)+(1:Int))=(v6 d4)/\True)/\((hk=hk/\lw=lw/\rg=rg/\sn=sn/\d3.1=d4.1/\d3.2.1=d4.2.1/\d3.2.2.1=d4.2.2.1/\(([]:List SV)=[]))/\(d3.2.2.2.1=d4.2.2.2.1/\nl=nl)/\(vals=vals/\(True/\True/\(([]:List SV)=[])))/\True))/\q3 d4)) /\
    (((gD d3.2.2.2.1 (v6 d3) false)||(!(Kz rg sn (lI l).toNat (v6 d3).toNat)))=false ->
     (0<=(v6 d3))/\((v6 d3)<d3.2.2.2.1.length)/\(0<=(v6 d3))/\((v6 d3)<lw.length)/\(0<=(lI l))/\((lI l)<lw.length)/\(((gD lw (v6 d3) 0) != (gD lw (lI l) 0))=true ->
      (((List.length ([]:List Int))+l.length)*8<=70368744177664)/\(((List.length (([]:List Int)++l))+(List.length [(v6 d3)]))*8<=70368744177664)/\(I64 (wr+(1:Int)))/\((lw.length<=7/\(sT d3.2.2.2.1 (v6 d3) true).length=lw.length/\((([]:List Int)++l)++[(v6 d3)]).length<=lw.length/\sn.length<=1000/\rg.length=sn.length/\(∀ s∈sn,s.length=lw.length)/\(∀ s∈rg,s.length=lw.length)/\0<=(wr+(1:Int))/\(wr+(1:Int))<=((([]:List Int)++l)++[(v6 d3)]).length/\0<=d3.2.2.1/\d3.2.2.1+(lw.length ^ (lw.length-((([]:List Int)++l)++[(v6 d3)]).length):Nat)<=1000000000)/\(lw.length-((([]:List Int)++l)++[(v6 d3)]).length)<dQ)/\(0<=(v6 d3))/\((v6 d3)<(List.length (sT d3.2.2.2.1 (v6 d3) true)))/\(I64 ((v6 d3)+(1:Int)))/\(∃ d5:(List Int)×Int×Int×(List Bool)×Int,((True/\l=l/\True/\wr=wr/\(lI l)=(lI l)/\((v6 d3)+(1:Int))=(v6 d5)/\True)/\((hk=hk/\lw=lw/\rg=rg/\sn=sn/\((N1 lw rg sn (lw.length-((([]:List Int)++l)++[(v6 d3)]).length) ((([]:List Int)++l)++[(v6 d3)]) (sT d3.2.2.2.1 (v6 d3) true) (wr+(1:Int)) (d3.1,(d3.2.1,d3.2.2.1))).1)=d5.1/\((N1 lw rg sn (lw.length-((([]:List Int)++l)++[(v6 d3)]).length) ((([]:List Int)++l)++[(v6 d3)]) (sT d3.2.2.2.1 (v6 d3) true) (wr+(1:Int)) (d3.1,(d3.2.1,d3.2.2.1))).2.1)=d5.2.1/\((N1 lw rg sn (lw.length-((([]:List Int)++l)++[(v6 d3)]).length) ((([]:List Int)++l)++[(v6 d3)]) (sT d3.2.2.2.1 (v6 d3) true) (wr+(1:Int)) (d3.1,(d3.2.1,d3.2.2.1))).2.2)=d5.2.2.1/\(([]:List SV)=[]))/\((sT (sT d3.2.2.2.1 (v6 d3) true) (v6 d3) false)=d5.2.2.2.1/\nl=nl)/\(vals=vals/\(True/\True/\(([]:List SV)=[])))/\True))/\q3 d5)) /\
     (((gD lw (v6 d3) 0) != (gD lw (lI l) 0))=false ->
      (((List.length ([]:List Int))+l.length)*8<=70368744177664)/\(((List.length (([]:List Int)++l))+(List.length [(v6 d3)]))*8<=70368744177664)/\(I64 (wr+(0:Int)))/\((lw.length<=7/\(sT d3.2.2.2.1 (v6 d3) true).length=lw.length/\((([]:List Int)++l)++[(v6 d3)]).length<=lw.length/\sn.length<=1000/\rg.length=sn.length/\(∀ s∈sn,s.length=lw.length)/\(∀ s∈rg,s.length=lw.length)/\0<=(wr+(0:Int))/\(wr+(0:Int))<=((([]:List Int)++l)++[(v6 d3)]).length/\0<=d3.2.2.1/\d3.2.2.1+(lw.length ^ (lw.length-((([]:List Int)++l)++[(v6 d3)]).length):Nat)<=1000000000)/\(lw.length-((([]:List Int)++l)++[(v6 d3)]).length)<dQ)/\(0<=(v6 d3))/\((v6 d3)<(List.length (sT d3.2.2.2.1 (v6 d3) true)))/\(I64 ((v6 d3)+(1:Int)))/\(∃ d6:(List Int)×Int×Int×(List Bool)×Int,((True/\l=l/\True/\wr=wr/\(lI l)=(lI l)/\((v6 d3)+(1:Int))=(v6 d6)/\True)/\((hk=hk/\lw=lw/\rg=rg/\sn=sn/\((N1 lw rg sn (lw.length-((([]:List Int)++l)++[(v6 d3)]).length) ((([]:List Int)++l)++[(v6 d3)]) (sT d3.2.2.2.1 (v6 d3) true) (wr+(0:Int)) (d3.1,(d3.2.1,d3.2.2.1))).1)=d6.1/\((N1 lw rg sn (lw.length-((([]:List Int)++l)++[(v6 d3)]).length) ((([]:List Int)++l)++[(v6 d3)]) (sT d3.2.2.2.1 (v6 d3) true) (wr+(0:Int)) (d3.1,(d3.2.1,d3.2.2.1))).2.1)=d6.2.1/\((N1 lw rg sn (lw.length-((([]:List Int)++l)++[(v6 d3)]).length) ((([]:List Int)++l)++[(v6 d3)]) (sT d3.2.2.2.1 (v6 d3) true) (wr+(0:Int)) (d3.1,(d3.2.1,d3.2.2.1))).2.2)=d6.2.2.1/\(([]:List SV)=[]))/\((sT (sT d3.2.2.2.1 (v6 d3) true) (v6 d3) false)=d6.2.2.2.1/\nl=nl)/\(vals=vals/\(True/\True/\(([]:List SV)=[])))/\True))/\q3 d6)))) /\
   ((decide ((v6 d3)<(lI lw)))=false ->
    (vals=vals/\(True/\True/\(([]:List SV)=[]))/\((([]:List SV)=[]))/\(hk=hk/\lw=lw/\rg=rg/\sn=sn/\d3.1=((N1 lw rg sn (lw.length-l.length) l us wr (bs,(w0,mn))).1)/\d3.2.1=((N1 lw rg sn (lw.length-l.length) l us wr (bs,(w0,mn))).2.1)/\d3.2.2.1=((N1 lw rg sn (lw.length-l.length) l us wr (bs,(w0,mn))).2.2)/\(([]:List SV)=[]))/\(d3.2.2.2.1=us/\nl=nl)))) d30)
def cx_ref11_Finder_Try:Cx:=⟨[(3,(.i .i64))],[(37,JN)],107,[2999999],0,[],[],[],[],false,[],[],[],[]⟩
def WV (us:List Bool) (nl:Bool) (hk:Int) (lw:List Int) (rg:List (List UInt8)) (sn:List (List UInt8)) (bs:List Int) (w0:Int) (mn:Int) (l:List Int) (wr:Int) (vals:List Value):List (Nat×LoopAnn):=[(0,⟨Unit,(List Int)×Int×Int×(List Bool)×Int,[0,1,2,3,8,9],λe x=>[.box 0 0,.val (.list (.i .i64)) l,.lst 1,.val (.i .i64) wr,.val (.i .i64) ((l.length:Nat):Int),.val (.i .i64) x.2.2.2.2],λe x=>[(0,.slot 0,.cells [.val (.i .i64) hk,.val (.list (.i .i64)) lw,.val (.list .st) rg,.val (.list .st) sn,.val (.list (.i .i64)) x.1,.val (.i .i64) x.2.1,.val (.i .i64) x.2.2.1] (some 45)),(1,.slot 2,.lst 4 .bo x.2.2.2.1 nl),(4000000,.key 4000000,.stk [.box 0 0,.lst 1] vals)]⟩)]
theorem UK (dQ:Nat) (us:List Bool) (nl:Bool) (c:Int×List Int×List (List UInt8)×List (List UInt8)×List Int×Int×Int) (a:List Int×Int):(∀ vals,gwp {cx_ref11_Finder_Try with xs:=(16,T0 Ae 1 (some 45) (II 4 .bo Jp Js (λus nl c a=>W8 us nl c a/\WW us c a<dQ) Jr Jo J5))::cx_ref11_Finder_Try.xs} (WV us nl c.1 c.2.1 c.2.2.1 c.2.2.2.1 c.2.2.2.2.1 c.2.2.2.2.2.1 c.2.2.2.2.2.2 a.1 a.2 vals) c16 0 (Ow vals [] (Jr us nl c a) (some 45) (Jo us nl c a) (.lst 4 .bo (J5 us nl c a) nl)) (NJ 107 1 (some 45) (AL.can Jp c) (.lst 4 .bo us nl) vals (AL.can Js a)))=ZM dQ us nl c.1 c.2.1 c.2.2.1 c.2.2.2.1 c.2.2.2.2.1 c.2.2.2.2.2.1 c.2.2.2.2.2.2 a.1 a.2:=by kernel_rfl
abbrev U_:Prop:=XOk Tryz.prog 16 X1
theorem UH (h:∀ (dQ:Nat) (us:List Bool) (nl:Bool) (hk:Int) (lw:List Int) (rg:List (List UInt8)) (sn:List (List UInt8)) (bs:List Int) (w0:Int) (mn:Int) (l:List Int) (wr:Int),(lw.length<=7/\us.length=lw.length/\l.length<=lw.length/\sn.length<=1000/\rg.length=sn.length/\(∀ s∈sn,s.length=lw.length)/\(∀ s∈rg,s.length=lw.length)/\0<=wr/\wr<=l.length/\0<=mn/\mn+(lw.length ^ (lw.length-l.length):Nat)<=1000000000)->(lw.length-l.length)=dQ->ZM dQ us nl hk lw rg sn bs w0 mn l wr):XOk Tryz.prog 16 X1 :=
 Ij Q2t mixed SL (μ:=WW) (C:=cx_ref11_Finder_Try) ⟨(.cons VR .nil),XsOk.nil,ItsOk.nil,YlOk.nil,IysOk.nil,XfOk.nil⟩ rfl (L:=λus nl (c:Int×List Int×List (List UInt8)×List (List UInt8)×List Int×Int×Int) (a:List Int×Int) vals=>WV us nl c.1 c.2.1 c.2.2.1 c.2.2.2.1 c.2.2.2.2.1 c.2.2.2.2.2.1 c.2.2.2.2.2.2 a.1 a.2 vals) (V:=λdQ us nl (c:Int×List Int×List (List UInt8)×List (List UInt8)×List Int×Int×Int) (a:List Int×Int)=>ZM dQ us nl c.1 c.2.1 c.2.2.1 c.2.2.2.1 c.2.2.2.2.1 c.2.2.2.2.2.1 c.2.2.2.2.2.2 a.1 a.2) UK λn us nl c a hp hn=>h n us nl c.1 c.2.1 c.2.2.1 c.2.2.2.1 c.2.2.2.2.1 c.2.2.2.2.2.1 c.2.2.2.2.2.2 a.1 a.2 hp hn
theorem VP:U_:=UH λdQ us nl hk lw rg sn bs w0 mn l wr hp hn=>by
 obtain⟨h1,h2,h3,h4,h5,h6,h7,h8,h9,cf,ga⟩:=hp;unfold ZM;(try delta lI gD sT I64 Q7 v7 v6)
 (try simp only[zg,zn])
 intro vals;simp only[Zd,xB,zj,zB,List.length_nil,zo,zw,xi,zp];refine⟨λhl=>?_,λhl=>?_⟩
 .have hl:l.length=lw.length:=by omega
  have u7:mn+1<=1000000000:=by rw[hl,x_,Nat.pow_zero] at ga;exact ga
  have hT:N1 lw rg sn (lw.length-l.length) l us wr (bs,(w0,mn))=tLf l wr (bs,(w0,mn)):=by rw[hl,x_];rfl
  rw[hT];refine⟨λhc=>?_,λhc=>?_⟩
  .rw[zt,zj,zg] at hc;simp only[tLf];rw[z6 hc,z6 hc];refine⟨by omega,by omega,?_⟩;simp
  .rw[Bool.or_eq_false_iff,zB,zn] at hc;simp only[tLf];rw[z7 (by rw[not_or];exact hc),z7 (by rw[not_or];exact hc)];refine⟨by omega,?_⟩;simp
 .have hl:l.length<lw.length:=by omega
  obtain⟨k,hk⟩:∃ k,lw.length-l.length=k+1:=⟨lw.length-l.length-1,by omega⟩;rw[hk,RG];have rB:(lw.length ^ (k+1):Nat)=lw.length*lw.length ^ k:=by rw[Nat.pow_succ,xY]
  rw[hk,rB] at ga;refine⟨(),(bs,w0,mn,us,0),(by and_intros<;>first|rfl|trivial|simp),?_⟩;refine⟨λd=>∃ e:Nat,e<=lw.length/\d=((D3 lw rg sn k l us wr (bs,(w0,mn)) e).1,(D3 lw rg sn k l us wr (bs,(w0,mn)) e).2.1,(D3 lw rg sn k l us wr (bs,(w0,mn)) e).2.2,us,(e:Int)),λd=>lw.length-d.2.2.2.2.toNat,⟨0,Nat.zero_le _,rfl⟩,?_⟩;rintro _ ⟨e,he,rfl⟩;dsimp only;have hm:∀ e,mn<=(D3 lw rg sn k l us wr (bs,(w0,mn)) e).2.2/\(D3 lw rg sn k l us wr (bs,(w0,mn)) e).2.2<=mn+(e*lw.length ^ k:Nat):=λe=>by
   induction e with
   |zero=>rw[L3];dsimp only;omega
   |succ e ih =>
    rw[Nr,Nat.succ_mul];split
    .omega
    .have:=Be lw rg sn k (l++[(e:Int)]) (us.set e true) (wr+mrR lw l.length e) (D3 lw rg sn k l us wr (bs,(w0,mn)) e);omega
  refine⟨λai=>?_,λbu=>?_⟩
  .have ai:e<lw.length:=by omega
   simp only[zp];have hmul:e*lw.length ^ k+lw.length ^ k<=lw.length*lw.length ^ k:=by rw[<-Nat.succ_mul];exact zm _ ai
   have jt:=hm e;have cX:lw.length-(l.length+1)=k:=by omega
   have cH:us.getD e false=false->(us.set e true).set e false=us:=λhu=>by
    rw[List.set_set];apply List.ext_getElem (by simp);intro i g1 g2;rw[List.getElem_set];split
    .rename_i c;subst c;rw[Qd g2] at hu;exact hu.symm
    .rfl
   refine⟨by omega,by omega,λ_=>⟨h4,h5,by omega,by omega,λs hs=>by have:=h6 s hs;omega,λs hs=>by have:=h7 s hs;omega⟩,λhb=>?_,λhb=>?_⟩
   .refine⟨by omega,((D3 lw rg sn k l us wr (bs,(w0,mn)) e).1,(D3 lw rg sn k l us wr (bs,(w0,mn)) e).2.1,(D3 lw rg sn k l us wr (bs,(w0,mn)) e).2.2,us,(e:Int)+1),(by and_intros<;>first|rfl|trivial|simp),⟨e+1,by omega,?_⟩,by dsimp only;omega⟩;rw[Nr,z6 hb];rfl
   .have hu:us.getD e false=false:=by rw[Bool.or_eq_false_iff] at hb;exact hb.1
    have bD:¬ (us.getD e false||!Kz rg sn l.length e)=true:=by rw[hb];simp
    have dM:=Nr lw rg sn k l us wr (bs,(w0,mn)) e;rw[z7 bD] at dM;refine⟨by omega,by omega,by omega,by omega,by omega,by omega,λhc=>?_,λhc=>?_⟩
    .have rC:mrR lw l.length e=1:=by rw[mrR,z6 (by rw[bne_iff_ne] at hc;exact hc)]
     rw[rC] at dM;refine⟨by omega,by omega,by omega,⟨⟨h1,by omega,by omega,h4,h5,h6,h7,by omega,by omega,by omega,by rw[cX];omega⟩,by omega⟩,by omega,by omega,by omega,((D3 lw rg sn k l us wr (bs,(w0,mn)) (e+1)).1,(D3 lw rg sn k l us wr (bs,(w0,mn)) (e+1)).2.1,(D3 lw rg sn k l us wr (bs,(w0,mn)) (e+1)).2.2,us,(e:Int)+1),?_,⟨e+1,by omega,rfl⟩,by dsimp only;omega⟩;dsimp only;rw[cX,dM,cH hu];exact(by and_intros<;>first|rfl|trivial|simp)
    .have rC:mrR lw l.length e=0:=by rw[mrR,z7 (by rw[bne_eq_false_iff_eq] at hc;exactλh=>h hc)]
     rw[rC] at dM;refine⟨by omega,by omega,by omega,⟨⟨h1,by omega,by omega,h4,h5,h6,h7,by omega,by omega,by omega,by rw[cX];omega⟩,by omega⟩,by omega,by omega,by omega,((D3 lw rg sn k l us wr (bs,(w0,mn)) (e+1)).1,(D3 lw rg sn k l us wr (bs,(w0,mn)) (e+1)).2.1,(D3 lw rg sn k l us wr (bs,(w0,mn)) (e+1)).2.2,us,(e:Int)+1),?_,⟨e+1,by omega,rfl⟩,by dsimp only;omega⟩;dsimp only;rw[cX,dM,cH hu];exact(by and_intros<;>first|rfl|trivial|simp)
  .have:e=lw.length:=by omega
   subst this;simp
end Go.Proofs.Tryz
namespace Go.V
open Go Go.ChangeShapes Go.WideShapes Go.RowKit Go.Deep Go.Joins
def Heap.RO (U:Heap):Prop:=∀ i b,U.get i=some b->b.wr=false
structure View (w:World) (ρ:Plc) (U:Heap):Prop where
 rel:HRel ρ U w
 ro:U.RO
structure More (ρ:Plc) (U:Heap) (ρ':Plc) (U':Heap):Prop where
 n:U.n<=U'.n
 pl:∀ i,i<U.n->∀ p,ρ' i=some p->ρ i=some p
 ag:Agree U U'
theorem More.refl (ρ:Plc) (U:Heap):More ρ U ρ U:=⟨zd _,λ_ _ _ h=>h,Agree.refl _⟩
theorem More.trans {ρ ρ' eM:Plc}{U U' aI:Heap}(h:More ρ U ρ' U') (k:More ρ' U' eM aI):More ρ U eM aI :=
 ⟨zW h.n k.n,λi hi p hp=>h.pl i hi p (k.pl i (xm hi h.n) p hp),h.ag.trans k.ag h.n⟩
def Q7o (w:World):Prop:=∀ g cs,IW g=some cs->∃ e f,w.heap[g]?=some (.cells cs.toArray e f)
theorem View.emptyT (w:World) (ht:Q7o w):View w (λ_=>none) Heap.empty where
 rel:=⟨⟨λi b h=>(by cases h),λ_ _=>rfl,λi p h=>(by cases h),λi j p q b _ h=>(by cases h)⟩,λg cs hg=>⟨ht g cs hg,λ⟨_,_,_,h,_⟩=>by cases h⟩⟩
 ro:=λi b h=>by cases h
theorem View.add {w:World}{ρ:Plc}{U:Heap}(h:View w ρ U) (p:Pl) (c:List Value) {C:Array Value}{e:TypeId}{f:Nat×Nat}(hb:w.heap[p.blk]?=some (.cells C e f)) (hs:p.shift+p.ext<=C.size) (hl:c.length<=p.ext) (ht:e=p.esz.ty)
  (hc:∀ (k:Nat) (v:Value),c[k]?=some v->∃ u,w.cell? ⟨p.blk,p.shift+k,none⟩=some u/\VRel ρ U.n v u) :
  View w (ρ.put U.n (some p)) (U.push (.cells c p.esz false p.tight))/\More ρ U (ρ.put U.n (some p)) (U.push (.cells c p.esz false p.tight)):=by
 have aU:∀ i,i<U.n->∀ q,(ρ.put U.n (some p)) i=some q->ρ i=some q:=λi hi q hq=>by unfold Plc.put at hq;rwa [z7 (by omega)] at hq
 have bW:(U.push (.cells c p.esz false p.tight)).RO:=λi b hi=>by
  by_cases e:i=U.n
  .subst e;rw[Heap.q0a] at hi;obtain rfl:=osj hi;rfl
  .rw[Heap.q0e _ _ e] at hi;exact h.ro i b hi
 refine⟨⟨⟨⟨?_,?_,?_,?_⟩,λg cs hg=>⟨(h.rel.tab g cs hg).1,λ⟨i,_,b,_,hi,hw,_⟩=>by rw[bW i b hi] at hw;cases hw⟩⟩,bW⟩,⟨by simp,aU,λi hi=>Heap.q0g _ _ hi⟩⟩
 .intro i b hi;by_cases aQ:i=U.n
  .subst aQ;rw[Heap.q0a] at hi;obtain rfl:=osj hi;refine⟨p,by simp[Plc.put],rfl,rfl,hl,⟨C,e,f,hb,hs,ht⟩,λk v hk=>?_,λh=>by cases h⟩;obtain⟨u,hu,hv⟩:=hc k v hk;exact⟨u,hu,hv.mono (by simp) aU⟩
  .rw[Heap.q0e _ _ aQ] at hi;obtain⟨q,hq,hB⟩:=h.rel.live i b hi;exact⟨q,by simp[Plc.put,aQ,hq],hB.mono (by simp) aU rfl⟩
 .intro i hi;by_cases aQ:i=U.n
  .grind [Heap.q0a]
  .rw[Heap.q0e _ _ aQ] at hi;simp[Plc.put,aQ,h.rel.dead i hi]
 .intro i q hq;by_cases aQ:i=U.n
  .subst aQ;simp[Plc.put] at hq
   grind
  .simp[Plc.put,aQ] at hq;exact h.rel.lt i q hq
 .intro i j q r b _ _ _ bD hw _;rw[bW i b bD] at hw;cases hw
theorem FB {P:Program}{fits:TypeId->Bool}{d:Nat}{e:TypeId}{count off n:Nat}(h:rowAt P fits d e count off n=true):off<=count*P.cellsOf e:=by
 cases d with
 |zero=>cases h
 |succ d =>
  unfold rowAt at h;by_cases hs:P.cellsOf e=0
  .simp[hs] at h
  .have cT:0<P.cellsOf e:=Nat.pos_of_ne_zero hs;simp only[hs,if_false,zt,z1,zj,zg] at h;have hd:=Nat.div_add_mod off (P.cellsOf e);have hm:=wh off cT;rcases h with⟨⟨h1,h2⟩,_⟩|⟨h1,_⟩
   .have:P.cellsOf e*(off / P.cellsOf e)<=P.cellsOf e*count:=Nat.mul_le_mul_left _ (by omega);rw[xY count];omega
   .have:P.cellsOf e*(off / P.cellsOf e+1)<=P.cellsOf e*count:=Nat.mul_le_mul_left _ (by omega)
    grind
theorem Pg {P:Program}:∀ {d:Nat}{e:TypeId}{count off:Nat}{u:TypeId}{n:Nat},liesAt P d e count off u n=true->off<=count*P.cellsOf e
 |0,_,_,_,_,_,h=>by cases h
 |d+1,e,count,off,u,n,h=>by
  unfold liesAt at h;rw[zt] at h;rcases h with h|h
  .exact FB h
  .split at h
   .exact Pg h
   .cases h
theorem So {P:Program}{w:World}{r:Reach}{base:Nat}{a:Addr}{e:TypeId}{n:Nat}(h:w.has P r base a e n):∃ C row f,w.heap[a.block]?=some (.cells C row f)/\a.off<=C.size/\a.spot=none:=by
 obtain⟨_,hs,row,cells,ek,hl⟩:=h;unfold World.shape? at ek;split at ek
 .rename_i C e' f hb;obtain⟨rfl,rfl⟩:=(by simpa using ek:e'=row/\C.size=cells);exact⟨C,e',f,hb,zW (Pg hl) (Nat.div_mul_le_self _ _),hs⟩
 .cases ek
theorem G5 {P:Program}{w:World}{r:Reach}{base:Nat}{t e:TypeId}{v:Value}(ht:P.underlying t=some (.slice e)) (h:Cell.okWide P w r base t v) :
  v=.slice none 0 0\/∃ a len cap,v=.slice (some a) len cap/\w.has P r base a e cap:=by
 unfold Cell.okWide at h;rw[ht] at h;have h':Cell.ok P w r base t v:=by omega
 unfold Cell.ok at h'
 grind
theorem Q47 {k:IntKind}{x:Int}(h:(Lit.int k x).wf=true):k.min<=x/\x<=k.max:=by simpa [Lit.wf] using h
theorem View.calls {P:Program}{f:FuncId}{w:World}{ρ:Plc}{U:Heap}(h:View w ρ U) {args:List Value}{au:Array Value}(hl:LRel ρ U.n args au.toList) (hc:VCallsTo P f args U λv _=>v=.bool true) :
  Calls P f au w λe w'=>e=.returned (.bool true)/\Below w.heap.size w w':=by
 refine (hc ρ w au h.rel hl).mono λe w' ⟨c,he,v,ρ',U',hv,hr,_,hx⟩=>?_;subst hv;have:c=.bool true:=by cases hr;rfl
 subst this;exact⟨he,hx.os,hx.tape,hx.output,hx.size,λB hB=>hx.keep B hB λ⟨i,p,b,_,hi,hw,_⟩=>by rw[h.ro i b hi] at hw;cases hw⟩
theorem NS {H:Type}{enc:TypeId×Value->H}{P:Program}(hl:laidOutB P=true) {W W':World}{sp:Nat->Bool}(hb:Below W.heap.size W W') :
  ∀ {ts:List TypeId}{vs:List Value}{ds:List (DataW H)}{ps:List MemPlace},(∀ t∈ts,P.readableRec t=true/\t<P.types.size)->DataW.TrodAll enc P W 0 (λ_=>true) true ts vs ds ps->(∀ p∈ps,p.block<W.heap.size)->(∀ p∈ps,sp p.block=true) ->
   DataW.TrodAll enc P W' 0 sp true ts vs ds ps
 |[],vs,ds,ps,_,h,_,_=>by obtain⟨rfl,rfl,rfl⟩:=trodAll_nil h;rfl
 |t::ts,vs,ds,ps,ht,h,ai,hs=>by
  obtain⟨v,cG,d,ds',p,q,rfl,rfl,rfl,h1,h2⟩:=trodAll_cons h;obtain⟨r1,r2⟩:=ht t (by simp);exact⟨p,q,WideElems.Trod_stays hl r1 r2 h1 (λx hx=>hb.same (ai x (by simp[hx]))) (λx hx=>hs x (by simp[hx])),
   NS hl hb (λt px=>ht t (by simp[px])) h2 (λx hx=>ai x (by simp[hx])) (λx hx=>hs x (by simp[hx])),rfl⟩
theorem ES {H:Type}{enc:TypeId×Value->H}{P:Program}{f:Func}{s:ChangeSpec}{apart fresh handsOn again:Bool}{W W':World}{args:Array Value}{ds gs:List (DataW H)}{before:List MemPlace}{tb:TypeId}
  (hl:laidOutB P=true) (hp:f.params.toList.all (λt=>P.readableRec t&&decide (t<P.types.size))=true) (kT:s.vars=[]) (hr:f.resultTypes=#[tb]) (bI:P.underlying tb=some .bool) (hs:s.fn H ds={results:=[.lit (.bool true)],args:=ds})
  (hW:DataW.Whole enc P f.params.toList s.vars apart W args.toList ds gs before) (hb:Below W.heap.size W W'):s.post enc P f apart fresh handsOn again W args (.bool true) W':=by
 have ai:∀ p∈before,p.block<W.heap.size:=λp hp=>hW.lt p hp;have u9:=hW;obtain⟨p,q,hA,hV,rfl,hz,hn⟩:=hW;rw[kT] at hV;obtain⟨rfl,rfl⟩:=trodVars_none hV;have bw:∀ t∈f.params.toList,P.readableRec t=true/\t<P.types.size:=(by grind);have fG:s.fn H (ds++[])={results:=[.lit (.bool true)],args:=ds}:=by rw[xA];exact hs
 have eu:∀ (b:Nat) (sp:Nat->Bool) (hd:Bool),DataW.TrodAll enc P W' b sp hd f.resultTypes.toList ((Value.bool true).resultList f.resultTypes.size) (s.fn H (ds++[])).results []:=λb sp hd=>by rw[fG,hr];exact trodAll_mk1 (shut_bool bI _)
 have av:∀ sp:Nat->Bool,(∀ x∈p++[],sp x.block=true)->DataW.TrodAll enc P W' 0 sp true f.params.toList args.toList (s.fn H (ds++[])).args p:=(by grind [NS]);have ct:∀ sp:Nat->Bool,DataW.TrodVars enc P W' sp s.vars (s.fn H (ds++[])).vars []:=λsp=>by rw[fG,kT];rfl
 have hold:∀ x∈p++[],(λb=>decide (b<W.heap.size)) x.block=true:=λx hx=>by simpa using ai x hx
 refine⟨ds,[],p++[],[],p,[],u9,eu _ _ _,av _ hold,ct _,World.keptBut_mono (λx hx=>⟨hx,?_⟩) (hb.frame (·∈p++[])),λ_=>?_⟩
 .exact .inr (by simpa using hx)
 .refine⟨ok_one hr rfl (okWide_bool_mk bI _),_,_,([]++p)++[],⟨[]++p,[],trodAll_append (av _ (λ_ _=>rfl)) (eu _ _ _),ct _,rfl,?_,?_⟩,?_⟩
  .intro b off hx;have aQ:MemPlace.cell b off∈p++[]:=by simpa using hx
   rw[hb.frozen (ai _ aQ)];exact hz b off aQ
  .intro ha;simpa using hn ha
  .intro x hx _;simpa using hx
def KFs (T:Kind->TypeId->Bool) (sz:TypeId->Nat):Kind->List (TypeId×Nat)->Nat->Bool
 |_,[],_=>false
 |k,[p],off=>p.2==off&&(sz p.1==k.size&&T k p.1)
 |.pair a b,p::q::r,off=>p.2==off&&(sz p.1==a.size&&(T a p.1&&KFs T sz b (q::r) (off+a.size)))
 |_,_::_::_,_=>false
def Kind.row:Kind->Bool
 |.list k=>k.flat
 |_=>false
def Q7e (P:Program) (t:TypeId):Bool:=match P.underlying t with|some (.slice _)=>true|_=>false
def KTy (P:Program):Nat->Kind->TypeId->Bool
 |0,_,_=>false
 |n+1,k,t=>match P.underlying t with
  |some (.struct fs)=>P.cellsOf t==k.size&&KFs (KTy P n) P.cellsOf k (fs.toList.map λf=>(f.type,f.offset)) 0
  |some (.array m e)=>P.cellsOf t==k.size&&KFs (KTy P n) P.cellsOf k ((List.range m).map λi=>(e,i*P.cellsOf e)) 0
  |some (.int ik)=>(match k with|.i k'=>decide (k'=ik)|_=>false)
  |some .bool=>(match k with|.bo=>true|_=>false)
  |some .string=>(match k with|.st=>true|_=>false)
  |some (.slice e)=>(match k with|.list k'=>P.cellsOf e==k'.size&&((k'.flat||(k'.row&&Q7e P e))&&KTy P n k' e)|_=>false)
  |_=>false
def KWf:(k:Kind)->k.T->Prop
 |.i ik,x=>InK ik x
 |.bo,_=>True
 |.st,s=>s.length<=maxLen
 |.list k,l=>l.length<=maxLen/\∀ x∈l,KWf k x
 |.pair a b,x=>KWf a x.1/\KWf b x.2
theorem More.le {ρ ρ':Plc}{U U':Heap}(h:More ρ U ρ' U'):U.Le U':=⟨h.n,λi b hb=>by rw[h.ag i (U.lt hb)];exact hb⟩
def ArgIs (w:World) (ρ:Plc) (U:Heap) (k:Kind) (cs:List Value):Prop :=
 ∃ ρ' U' vs x,View w ρ' U'/\More ρ U ρ' U'/\LRel ρ' U'.n vs cs/\KC U' k x vs/\KWf k x
theorem ArgIs.pair {w:World}{ρ:Plc}{U:Heap}{a b:Kind}{cs ds:List Value}(h1:ArgIs w ρ U a cs) (h2:∀ ρ U,View w ρ U->ArgIs w ρ U b ds):ArgIs w ρ U (.pair a b) (cs++ds):=by obtain⟨ρ1,σ1,ri,x1,k1,k2,k3,k4,k5⟩:=h1;obtain⟨ρ2,σ2,jA,x2,m1,m2,m3,m4,m5⟩:=h2 ρ1 σ1 k1;exact⟨ρ2,σ2,ri++jA,(x1,x2),m1,k2.trans m2,(k3.mono m2.n m2.pl).append m3,⟨ri,jA,rfl,k4.mono m2.le,m4⟩,k5,m5⟩
section
variable {H:Type}{enc:TypeId×Value->H}{P:Program}{w:World}{r:Reach}{base:Nat}
def okc (P:Program) (w:World) (r:Reach) (base:Nat) (ts:List TypeId) (cs:List Value):Prop:=∀ (i:Nat) v u,cs[i]?=some v->ts[i]?=some u->Cell.okWide P w r base u v
theorem LV {T:Kind->TypeId->Bool}{sz:TypeId->Nat}{g:TypeId->Option (List TypeId)}(hT:∀ k t ts,T k t=true->g t=some ts->ts.length=k.size) :
  ∀ {k:Kind}{L:List (TypeId×Nat)}{off:Nat}{iw:List (List TypeId)},KFs T sz k L off=true->L.mapM (λp=>g p.1)=some iw->iw.flatten.length=k.size
 |k,[],_,_,h,_=>by simp[KFs] at h
 |k,[p],off,iw,h,hm=>by
  simp only[KFs,z1] at h;cases hg:g p.1 with
  |none=>simp[hg] at hm
  |some ts =>simp[hg] at hm;subst hm;simpa using hT _ _ _ h.2.2 hg
 |.pair a b,p::q::r,off,iw,h,hm=>by
  simp only[KFs,z1] at h;rw[xd] at hm;cases hg:g p.1 with
  |none=>simp[hg] at hm
  |some ts =>
   cases hr:(q::r).mapM (λp=>g p.1) with
   |none=>simp[hg,hr] at hm
   |some tr =>simp[hg,hr] at hm;subst hm;have:=LV hT h.2.2.2 hr;simp only[List.flatten_cons,zo,this,hT _ _ _ h.2.2.1 hg,Kind.size]
 |.i _,_::_::_,_,_,h,_|.bo,_::_::_,_,_,h,_|.st,_::_::_,_,_,h,_|.list _,_::_::_,_,_,h,_=>by cases h
theorem Nh {α β γ:Type}{f:α->β}{g:β->Option γ}:∀ (l:List α),(l.map f).mapM g=l.mapM (λx=>g (f x))
 |[]=>rfl
 |a::l=>by simp only[zS,xd,Nh l]
theorem Mw {β:Type}{x:β}{f:Nat->Option β}(h:∀ i,f i=some x):∀ l:List Nat,l.mapM f=some (List.replicate l.length x)
 |[]=>rfl
 |a::l=>by simp[xd,h,Mw h l,xx]
theorem Ck:∀ {n:Nat}{k:Kind}{t:TypeId}{d:Nat}{ts:List TypeId},KTy P n k t=true->P.cellTypes d t=some ts->ts.length=k.size
 |0,_,_,_,_,h,_=>by cases h
 |_+1,_,_,0,_,_,h=>by cases h
 |n+1,k,t,d+1,ts,h,ht=>by
  have ih:∀ k t ts,KTy P n k t=true->P.cellTypes d t=some ts->ts.length=k.size:=λk t ts h1 h2=>Ck h1 h2;unfold Program.cellTypes at ht;unfold KTy at h;cases hu:P.underlying t with
  |none=>rw[hu] at h;cases h
  |some u =>
   rw[hu] at h ht;cases u<;>first|(cases h;done)|skip
   all_goals simp only at h ht
   .split at h<;>first|(cases h;done)|(obtain rfl:=osj ht;rfl)
   .split at h<;>first|(cases h;done)|(obtain rfl:=osj ht;rfl)
   .split at h<;>first|(cases h;done)|(obtain rfl:=osj ht;rfl)
   .split at h<;>first|(cases h;done)|(obtain rfl:=osj ht;rfl)
   .rename_i m e;rw[z1] at h;cases hc:P.cellTypes d e with
    |none=>rw[hc] at ht;cases ht
    |some te =>rw[hc] at ht;obtain rfl:=osj ht;refine LV (g:=λt=>P.cellTypes d t) ih h.2 ?_;rw[Nh,Mw (x:=te) (λ_=>hc)];simp
   .rename_i fs;rw[z1] at h;cases hc:fs.toList.mapM λf=>P.cellTypes d f.type with
    |none=>rw[hc] at ht;cases ht
    |some iw =>rw[hc] at ht;obtain rfl:=osj ht;refine LV (g:=λt=>P.cellTypes d t) ih h.2 ?_;rw[Nh];exact hc
theorem Nl {T:Kind->TypeId->Bool}{sz:TypeId->Nat}{Q:TypeId->List Value->Prop}{R:Kind->List Value->Prop}(hT:∀ k t cs,T k t=true->Q t cs->R k cs) (hR:∀ a b cs ds,R a cs->R b ds->R (.pair a b) (cs++ds)) (cs:List Value) :
  ∀ {k:Kind}{L:List (TypeId×Nat)}{off:Nat},KFs T sz k L off=true->(∀ p∈L,Q p.1 ((cs.drop p.2).take (sz p.1)))->R k ((cs.drop off).take k.size)
 |k,[],_,h,_=>by simp[KFs] at h
 |k,[p],off,h,hq=>by
  simp only[KFs,z1,zj] at h
  grind
 |.pair a b,p::q::r,off,h,hq=>by
  simp only[KFs,z1,zj] at h;have h1:=hq p (by simp);rw[h.1,h.2.1] at h1;have h2:=Nl hT hR cs h.2.2.2 (by simp_all);have e:(cs.drop off).take (Kind.pair a b).size=(cs.drop off).take a.size++(cs.drop (off+a.size)).take b.size:=by rw[Kind.size,List.take_add,List.drop_drop]
  grind
 |.i _,_::_::_,_,h,_|.bo,_::_::_,_,h,_|.st,_::_::_,_,h,_|.list _,_::_::_,_,h,_=>by cases h
def FlatIs (k:Kind) (cs:List Value):Prop:=∃ y:k.T,(∀ h,KC h k y cs)/\KWf k y/\∀ ρ m,LRel ρ m cs cs
theorem FlatIs.pair {a b:Kind}{cs ds:List Value}(h1:FlatIs a cs) (h2:FlatIs b ds):FlatIs (.pair a b) (cs++ds):=by obtain⟨x,k1,k2,k3⟩:=h1;obtain⟨y,m1,m2,m3⟩:=h2;exact⟨(x,y),λh=>⟨cs,ds,rfl,k1 h,m1 h⟩,⟨k2,m2⟩,fun ρ m=>(k3 ρ m).append (m3 ρ m)⟩
theorem LRel.one {ρ:Plc}{n:Nat}{v c:Value}(h:VRel ρ n v c):LRel ρ n [v] [c]:=.cons h (.nil _ _)
theorem Np {fs:Array Field}{f:Field}(h:f∈fs.toList):∃ i:Nat,fs[i]?=some f:=by obtain⟨i,hi,rfl⟩:=List.mem_iff_getElem.1 h;exact⟨i,by simp at hi;simp[hi]⟩
theorem Dg {sp:Nat->Bool}{held:Bool}:∀ {n:Nat}{k:Kind}{t:TypeId}{fuel:Nat}{cs:List Value}{x:DataW H×List MemPlace},KTy P n k t=true->k.flat=true->DataW.trod enc P w base sp held fuel t cs=some x->FlatIs k cs
 |0,_,_,_,_,_,h,_,_=>by cases h
 |n+1,k,t,fuel,cs,x,h,hf,hx=>by
  unfold KTy at h;cases hu:P.underlying t with
  |none=>rw[hu] at h;cases h
  |some u =>
   rw[hu] at h;have hR:∀ a b cs ds,((a.flat=true->FlatIs a cs)/\True)->((b.flat=true->FlatIs b ds)/\True)->(((Kind.pair a b).flat=true->FlatIs (.pair a b) (cs++ds))/\True):=λa b cs ds h1 h2=>⟨λhf=>by
    simp only[Kind.flat,z1] at hf;exact(h1.1 hf.1).pair (h2.1 hf.2),trivial⟩
   have hT:∀ k t cs,KTy P n k t=true->(∃ fuel x,DataW.trod enc P w base sp held fuel t cs=some x)->((k.flat=true->FlatIs k cs)/\True):=λk t cs h1 ⟨fuel,x,h2⟩=>⟨λhf=>Dg h1 hf h2,trivial⟩;cases u<;>first|(cases h;done)|skip
   all_goals simp only at h
   .split at h<;>first|(cases h;done)|skip
    obtain⟨b,rfl,_⟩:=DataW.trod_bool hu hx;exact⟨b,λ_=>rfl,trivial,λ_ _=>.one (.bool _)⟩
   .split at h<;>first|(cases h;done)|skip
    obtain rfl:=wc h;obtain⟨z,rfl,_,hw⟩:=DataW.trod_int hu hx;exact⟨z,λ_=>rfl,Q47 hw,λ_ _=>.one (.int _ _)⟩
   .split at h<;>first|(cases h;done)|skip
    obtain⟨s,rfl,_,hs⟩:=DataW.trod_string hu hx;exact⟨s.data.toList,λ_=>rfl,hs,λ_ _=>.one (.string _)⟩
   .split at h<;>first|(cases h;done)|(cases hf;done)
   .rename_i m e;simp only[z1,zj] at h;obtain⟨xs,m',_,_,hl,eO,hx⟩:=DataW.trod_array hu hx;have:=(Nl (R:=λk cs=>(k.flat=true->FlatIs k cs)/\True) hT hR cs h.2 (by grind)).1 hf
    grind
   .rename_i fs;simp only[z1,zj] at h;obtain⟨xs,m',_,_,hl,eO,hx⟩:=DataW.trod_struct hu hx;have:=(Nl (R:=λk cs=>(k.flat=true->FlatIs k cs)/\True) hT hR cs h.2 (by grind [Np,Array.getElem?_eq_some_iff,List.getElem?_eq_getElem])).1 hf
    grind
theorem Rows.range {α:Type}{R:α->List Value->Prop}{n:Nat}{c:List Value}{x:Nat->α}:∀ (m:Nat),(∀ i,i<m->R (x i) ((c.drop (i*n)).take n))->Rows R ((List.range m).map x) (c.take (m*n))
 |0,_=>by simp;exact .nil
 |m+1,h=>by
  have e:c.take ((m+1)*n)=c.take (m*n)++(c.drop (m*n)).take n:=by rw[zH,xD,List.take_add]
  rw[List.range_succ,xC,e];exact(Rows.range m λi hi=>h i (by omega)).append (by simpa using Rows.cons (h m (by omega)) .nil)
theorem G1 {α:Type}[Inhabited α] {m:Nat}{p:Nat->α->Prop}(h:∀ i,i<m->∃ x,p i x):∃ f:Nat->α,∀ i,i<m->p i (f i) :=
 ⟨λi=>if hi:i<m then (h i hi).choose else default,(by grind)⟩
instance KInh (k:Kind):Inhabited k.T:=⟨k.dflt⟩
theorem View.list {ρ:Plc}{U:Heap}(h:View w ρ U) {n:Nat}{k:Kind}{t e:TypeId}{fuel:Nat}{cs:List Value}{x:DataW H×List MemPlace}(hu:P.underlying t=some (.slice e)) (hs:P.cellsOf e=k.size) (hf:k.flat=true) (hk:KTy P n k e=true)
  (hx:DataW.trod enc P w 0 (λ_=>true) true fuel t cs=some x) (al:okc P w r base [t] cs):ArgIs w ρ U (.list k) cs:=by
 rcases open_slice hu hx with⟨rfl,_⟩|⟨a,len,cap,m,fu,D,Pl,rfl,hb,hl,hm,fX,_,hel⟩
 .exact⟨ρ,U,[.slice none 0 0],[],h,More.refl _ _,.one .nilSl,⟨_,rfl,.inl ⟨rfl,rfl⟩⟩,by simp[maxLen],λ_ hx=>by cases hx⟩
 simp only[zx] at fX;subst fX;rw[hs] at hel;have mr:w.has P r base a e m:=by
  rcases G5 hu (al 0 _ t rfl rfl) with hh|⟨a',rD,ao,hh,h2⟩
  .cases hh
  .cases hh;exact h2
 obtain⟨C,row,f,aC,bg,eK⟩:=So mr;obtain⟨blk,off,spot⟩:=a;simp only at aC bg eK;subst eK;have fR:∀ i,(⟨blk,off,none⟩:Addr).add i=⟨blk,off+i,none⟩:=λi=>by unfold Addr.add;split<;>simp_all
 obtain⟨X,hX⟩:=G1 (α:=k.T×List Value) (m:=m) (p:=λi p=>p.2.length=k.size/\(∀ j,j<k.size->w.cell? ⟨blk,off+i*k.size+j,none⟩=p.2[j]?)/\(∀ h,KC h k p.1 p.2)/\KWf k p.1/\∀ ρ m,LRel ρ m p.2 p.2) λi hi=>by
  obtain⟨cs',h1,h2⟩:=hel i hi;obtain⟨_,k1,k2⟩:=World.cells?_some h1;obtain⟨y,m1,m2,m3⟩:=Dg hk hf h2;refine⟨(y,cs'),k1,λj hj=>?_,m1,m2,m3⟩;have:=k2 j hj;rw[fR] at this;have e2:(⟨blk,off+i*k.size,none⟩:Addr).add j=⟨blk,off+i*k.size+j,none⟩:=by unfold Addr.add;split<;>simp_all
  rw[e2] at this;exact this
 have cT:=k.size_pos;let c:List Value:=(List.range (m*k.size)).map λj=>((X (j / k.size)).2[j % k.size]?).getD undef;have bR:c.length=m*k.size:=by simp[c]
 have hdiv:∀ j,j<m*k.size->j / k.size<m:=λj hj=>Nat.div_lt_of_lt_mul (by rw[xY];exact hj);have a8:∀ j,j<m*k.size->∃ v,c[j]?=some v/\w.cell? ⟨blk,off+j,none⟩=some v/\∀ ρ m,VRel ρ m v v:=λj hj=>by
  have h1:=hX (j / k.size) (hdiv j hj);have fg:j % k.size<k.size:=wh _ cT;have h2:=h1.2.1 _ fg;have e:off+j / k.size*k.size+j % k.size=off+j:=by rw[zE,Nat.div_add_mod']
  rw[e] at h2;have h3:j % k.size<(X (j / k.size)).2.length:=by rw[h1.1];exact fg
  refine⟨(X (j / k.size)).2[j % k.size],?_,?_,fun ρ m=>(h1.2.2.2.2 ρ m).2 _ _ _ (z8 h3) (z8 h3)⟩
  .grind
  .rw[h2,z8 h3]
 have rE:∀ i,i<m->(c.drop (i*k.size)).take k.size=(X i).2:=λi hi=>by
  have h1:=hX i hi;have hle:i*k.size+k.size<=m*k.size:=by have:(i+1)*k.size<=m*k.size:=zm _ hi;rw[zH] at this;omega
  apply zN
  grind
 have az:off+m*k.size<=C.size:=by
  rcases Nat.eq_zero_or_pos (m*k.size) with h0|h0
  .omega
  .obtain⟨v,_,h2,_⟩:=a8 (m*k.size-1) (by omega);unfold World.cell? at h2
   grind
 obtain⟨hv,kU⟩:=h.add ⟨blk,off,m*k.size,⟨k.size,row⟩,false⟩ c aC az (by simp[bR]) rfl (by grind);have hlen:((List.range len).map λi=>(X i).1).length=len:=by simp
 refine⟨_,_,[.slice (some ⟨U.n,0,none⟩) len m],(List.range len).map λi=>(X i).1,hv,kU,.one ?_,⟨_,rfl,.inr ⟨U.n,0,m,c,⟨k.size,row⟩,false,false,by rw[hlen],by rw[hlen];exact hl,Heap.q0a _ _,rfl,?_,?_⟩⟩,?_,λy hy=>?_⟩
 .refine .sl _ _ _ _ _ _ (by simp) λp hp=>?_;simp[Plc.put] at hp;subst hp;simp_all
 .rw[hlen,bR,zQ];exact zm _ hl
 .grind [Rows.range]
 .rw[hlen];exact zW hl hm
 grind
theorem View.listH {ρ:Plc}{U:Heap}(h:View w ρ U) {n:Nat}{k:Kind}{t e:TypeId}{fuel:Nat}{cs:List Value}{x:DataW H×List MemPlace}(hu:P.underlying t=some (.slice e)) (hs:P.cellsOf e=k.size) (hf:k.flat=true) (hk:KTy P n k e=true)
  (hx:DataW.trod enc P w 0 (λ_=>true) true fuel t cs=some x) (hA:∃ (b:Nat) (C:Array Value) (e:TypeId) (f:Nat×Nat),w.heap[b]?=some (Obj.cells C e f)):ArgIs w ρ U (.list k) cs:=by
 rcases open_slice hu hx with⟨rfl,_⟩|⟨a,len,cap,m,fu,D,Pl,rfl,hb,hl,hm,fX,_,hel⟩
 .exact⟨ρ,U,[.slice none 0 0],[],h,More.refl _ _,.one .nilSl,⟨_,rfl,.inl ⟨rfl,rfl⟩⟩,by simp[maxLen],λ_ hx=>by cases hx⟩
 simp only[zx] at fX;subst fX;rw[hs] at hel;have cT:=k.size_pos;by_cases bL:m=0
 .
  subst bL;obtain rfl:len=0:=by omega
  obtain⟨b0,C0,e0,f0,pz⟩:=hA;obtain⟨hv,kU⟩:=h.add ⟨b0,0,0,⟨k.size,e0⟩,false⟩ [] pz (Nat.zero_le _) (zd _) rfl (λj v hj=>by simp at hj);refine⟨_,_,[.slice (some ⟨U.n,0,none⟩) 0 0],[],hv,kU,.one ?_,⟨_,rfl,.inr ⟨U.n,0,0,[],⟨k.size,e0⟩,false,false,rfl,zd _,Heap.q0a _ _,rfl,?_,?_⟩⟩,by simp[KWf],λy hy=>by cases hy⟩
  .refine .sl _ _ _ _ _ _ (by simp) (by omega)
  .simp
  .simpa using Rows.nil
 obtain⟨C,row,f,aC,bg,eK⟩:∃ C row f,w.heap[a.block]?=some (Obj.cells C row f)/\a.off<=C.size/\a.spot=none:=by
  obtain⟨cs',h1,_⟩:=hel 0 (by omega);obtain⟨_,c1,c2⟩:=World.cells?_some h1;have c3:=c2 0 cT;have e0:(a.add (0*k.size)).add 0=a:=by simp[Addr.add]
  rw[e0,z8 (by omega)] at c3;unfold World.cell? at c3;split at c3
  .rename_i C row f aC;split at c3
   .cases c3
   .rename_i hs;exact⟨C,row,f,aC,(by grind),by simpa using hs⟩
  .cases c3
 obtain⟨blk,off,spot⟩:=a;simp only at aC bg eK;subst eK;have fR:∀ i,(⟨blk,off,none⟩:Addr).add i=⟨blk,off+i,none⟩:=λi=>by unfold Addr.add;split<;>simp_all
 obtain⟨X,hX⟩:=G1 (α:=k.T×List Value) (m:=m) (p:=λi p=>p.2.length=k.size/\(∀ j,j<k.size->w.cell? ⟨blk,off+i*k.size+j,none⟩=p.2[j]?)/\(∀ h,KC h k p.1 p.2)/\KWf k p.1/\∀ ρ m,LRel ρ m p.2 p.2) λi hi=>by
  obtain⟨cs',h1,h2⟩:=hel i hi;obtain⟨_,k1,k2⟩:=World.cells?_some h1;obtain⟨y,m1,m2,m3⟩:=Dg hk hf h2;refine⟨(y,cs'),k1,λj hj=>?_,m1,m2,m3⟩;have:=k2 j hj;rw[fR] at this;have e2:(⟨blk,off+i*k.size,none⟩:Addr).add j=⟨blk,off+i*k.size+j,none⟩:=by unfold Addr.add;split<;>simp_all
  rw[e2] at this;exact this
 let c:List Value:=(List.range (m*k.size)).map λj=>((X (j / k.size)).2[j % k.size]?).getD undef;have bR:c.length=m*k.size:=by simp[c]
 have hdiv:∀ j,j<m*k.size->j / k.size<m:=λj hj=>Nat.div_lt_of_lt_mul (by rw[xY];exact hj);have a8:∀ j,j<m*k.size->∃ v,c[j]?=some v/\w.cell? ⟨blk,off+j,none⟩=some v/\∀ ρ m,VRel ρ m v v:=λj hj=>by
  have h1:=hX (j / k.size) (hdiv j hj);have fg:j % k.size<k.size:=wh _ cT;have h2:=h1.2.1 _ fg;have e:off+j / k.size*k.size+j % k.size=off+j:=by rw[zE,Nat.div_add_mod']
  rw[e] at h2;have h3:j % k.size<(X (j / k.size)).2.length:=by rw[h1.1];exact fg
  refine⟨(X (j / k.size)).2[j % k.size],?_,?_,fun ρ m=>(h1.2.2.2.2 ρ m).2 _ _ _ (z8 h3) (z8 h3)⟩
  .grind
  .rw[h2,z8 h3]
 have rE:∀ i,i<m->(c.drop (i*k.size)).take k.size=(X i).2:=λi hi=>by
  have h1:=hX i hi;have hle:i*k.size+k.size<=m*k.size:=by have:(i+1)*k.size<=m*k.size:=zm _ hi;rw[zH] at this;omega
  apply zN
  grind
 have az:off+m*k.size<=C.size:=by
  rcases Nat.eq_zero_or_pos (m*k.size) with h0|h0
  .omega
  .obtain⟨v,_,h2,_⟩:=a8 (m*k.size-1) (by omega);unfold World.cell? at h2
   grind
 obtain⟨hv,kU⟩:=h.add ⟨blk,off,m*k.size,⟨k.size,row⟩,false⟩ c aC az (by simp[bR]) rfl (by grind);have hlen:((List.range len).map λi=>(X i).1).length=len:=by simp
 refine⟨_,_,[.slice (some ⟨U.n,0,none⟩) len m],(List.range len).map λi=>(X i).1,hv,kU,.one ?_,⟨_,rfl,.inr ⟨U.n,0,m,c,⟨k.size,row⟩,false,false,by rw[hlen],by rw[hlen];exact hl,Heap.q0a _ _,rfl,?_,?_⟩⟩,?_,λy hy=>?_⟩
 .refine .sl _ _ _ _ _ _ (by simp) λp hp=>?_;simp[Plc.put] at hp;subst hp;simp_all
 .rw[hlen,bR,zQ];exact zm _ hl
 .grind [Rows.range]
 .rw[hlen];exact zW hl hm
 grind
theorem View.list2 {ρ:Plc}{U:Heap}(h:View w ρ U) {n:Nat}{k:Kind}{t e e2:TypeId}{fuel:Nat}{cs:List Value}{x:DataW H×List MemPlace}(hu:P.underlying t=some (.slice e)) (hs:P.cellsOf e=1)
  (jM:P.underlying e=some (.slice e2)) (cU:P.cellsOf e2=k.size) (hf:k.flat=true) (hk:KTy P n k e2=true)
  (hx:DataW.trod enc P w 0 (λ_=>true) true fuel t cs=some x) (al:okc P w r base [t] cs):ArgIs w ρ U (.list (.list k)) cs:=by
 rcases open_slice hu hx with⟨rfl,_⟩|⟨a,len,cap,m,fu,D,Pl,rfl,hb,hl,hm,fX,_,hel⟩
 .exact⟨ρ,U,[.slice none 0 0],[],h,More.refl _ _,.one .nilSl,⟨_,rfl,.inl ⟨rfl,rfl⟩⟩,by simp[maxLen],λ_ hx=>by cases hx⟩
 simp only[zx] at fX;subst fX;rw[hs] at hel;have mr:w.has P r base a e m:=by
  rcases G5 hu (al 0 _ t rfl rfl) with hh|⟨a',rD,ao,hh,h2⟩
  .cases hh
  .cases hh;exact h2
 obtain⟨C,row,f,aC,bg,eK⟩:=So mr;obtain⟨blk,off,spot⟩:=a;simp only at aC bg eK;subst eK;have fR:∀ i,(⟨blk,off,none⟩:Addr).add i=⟨blk,off+i,none⟩:=λi=>by unfold Addr.add;split<;>simp_all
 have rows:∀ j,j<=m->∃ ρ' U',∃ vs:List Value,∃ xs:List (List k.T),View w ρ' U'/\More ρ U ρ' U'/\vs.length=j/\xs.length=j/\(∀ (i:Nat) v,vs[i]?=some v->∃ u,w.cell? ⟨blk,off+i,none⟩=some u/\VRel ρ' U'.n v u) /\
   Rows (KC U' (.list k)) xs vs/\∀ y∈xs,KWf (.list k) y:=by
  intro j;induction j with
  |zero=>exactλ_=>⟨ρ,U,[],[],h,More.refl _ _,rfl,rfl,λi v hi=>by simp at hi,.nil,λy hy=>by cases hy⟩
  |succ j ih =>
   intro hj;obtain⟨ρ1,σ1,vs,xs,k1,k2,k3,k4,k5,k6,k7⟩:=ih (by omega);obtain⟨cs',h1,h2⟩:=hel j (by omega);obtain⟨_,c1,c2⟩:=World.cells?_some h1;have c3:=c2 0 (by omega);obtain⟨u,rfl⟩:=z_.1 c1;have jz:((⟨blk,off,none⟩:Addr).add (j*1)).add 0=⟨blk,off+j,none⟩:=by rw[fR,xO];unfold Addr.add;split<;>simp_all
   rw[jz] at c3;have c4:w.cell? ⟨blk,off+j,none⟩=some u:=c3;obtain⟨ρ2,σ2,vv,y,m1,m2,m3,m4,m5⟩:=k1.listH jM cU hf hk h2 ⟨blk,C,row,f,aC⟩;have mV:vv.length=1:=by obtain⟨v,rfl,_⟩:=m4;rfl
   obtain⟨v,rfl⟩:=z_.1 mV;refine⟨ρ2,σ2,vs++[v],xs++[y],m1,k2.trans m2,by rw[zo,k3];rfl,by rw[zo,k4];rfl,λi v' hi=>?_,?_,λz hz=>?_⟩
   .by_cases cB:i<vs.length
    .rw[x9 cB] at hi;obtain⟨u',g1,g2⟩:=k5 i v' hi;exact⟨u',g1,g2.mono m2.n m2.pl⟩
    .have iI:i<(vs++[v]).length:=(zu.1 hi).1;rw[zo,zw] at iI;have rr:i=j:=by omega
     subst rr;rw[xk (by omega),k3,x_] at hi;obtain rfl:=osj hi;exact⟨u,c4,m3.2 0 _ _ rfl rfl⟩
   .exact(k6.mono λ_ _ hc=>KC.mono m2.le hc).append (by simpa using Rows.cons m4 .nil)
   .grind
 obtain⟨ρ1,σ1,vs,xs,k1,k2,k3,k4,k5,k6,k7⟩:=rows m (zd _);have az:off+m<=C.size:=by
  rcases Nat.eq_zero_or_pos m with h0|h0
  .omega
  .obtain⟨u,h2,_⟩:=k5 (m-1) _ (z8 (by omega));unfold World.cell? at h2
   grind
 obtain⟨hv,kU⟩:=k1.add ⟨blk,off,m,⟨1,row⟩,false⟩ vs aC az (by simp[k3]) rfl (λj v hj=>k5 j v hj);have hR:Rows (KC (σ1.push (.cells vs ⟨1,row⟩ false false)) (.list k)) xs vs:=k6.mono λ_ _ hc=>KC.mono kU.le hc;have hlen:(xs.take len).length=len:=by rw[wi,k4];omega
 have rF:(Kind.list k).size=1:=rfl;refine⟨_,_,[.slice (some ⟨σ1.n,0,none⟩) len m],xs.take len,hv,k2.trans kU,.one ?_,⟨_,rfl,.inr ⟨σ1.n,0,m,vs,⟨1,row⟩,false,false,by rw[hlen],by rw[hlen];exact hl,Heap.q0a _ _,rfl,?_,?_⟩⟩,?_,λy hy=>?_⟩
 .refine .sl _ _ _ _ _ _ (by simp) λp hp=>?_;simp[Plc.put] at hp;subst hp;simp_all
 .rw[rF,k3];omega
 .grind [Rows.take,KC.length]
 .rw[hlen];exact zW hl hm
 .exact k7 y (List.mem_of_mem_take hy)
def Kind.lev1:Kind->Bool
 |.list k=>k.flat||k.row
 |.pair a b=>a.lev1&&b.lev1
 |_=>true
theorem A0 {ts:List TypeId}{cs:List Value}(h:okc P w r base ts cs) (o n:Nat):okc P w r base ((ts.drop o).take n) ((cs.drop o).take n):=λi v u h1 h2=>by
 have hi:i<n:=by
  grind
 rw[List.getElem?_take_of_lt hi,zZ] at h1 h2;exact h _ v u h1 h2
theorem BA {T:Kind->TypeId->Bool}{sz:TypeId->Nat}{g:TypeId->Option (List TypeId)}(hT:∀ k t ts,T k t=true->g t=some ts->ts.length=k.size) :
  ∀ {k:Kind}{L:List (TypeId×Nat)}{off:Nat}{iw:List (List TypeId)},KFs T sz k L off=true->L.mapM (λp=>g p.1)=some iw->∀ p∈L,off<=p.2/\g p.1=some ((iw.flatten.drop (p.2-off)).take (sz p.1))
 |k,[],_,_,h,_=>by simp[KFs] at h
 |k,[p],off,iw,h,hm=>by
  simp only[KFs,z1,zj] at h;intro p' hp;obtain rfl:=zK.1 hp;cases hg:g p'.1 with
  |none=>simp[hg] at hm
  |some ts =>
   simp[hg] at hm;subst hm;refine⟨by omega,?_⟩;rw[h.1,x_,xr,h.2.1,zC]
   .simp
   .simp[hT _ _ _ h.2.2 hg]
 |.pair a b,p::q::r,off,iw,h,hm=>by
  simp only[KFs,z1,zj] at h;rw[xd] at hm;intro p' hp;cases hg:g p.1 with
  |none=>simp[hg] at hm
  |some ts =>
   cases hr:(q::r).mapM (λp=>g p.1) with
   |none=>simp[hg,hr] at hm
   |some tr =>
    simp[hg,hr] at hm;subst hm;have hlen:=hT _ _ _ h.2.2.1 hg;rcases zD.1 hp with rfl|hp
    .simp_all
    .obtain⟨h1,h2⟩:=BA hT h.2.2.2 hr p' hp
     grind [List.drop_eq_nil_of_le,List.flatten_cons,List.drop_append]
 |.i _,_::_::_,_,_,h,_|.bo,_::_::_,_,_,h,_|.st,_::_::_,_,_,h,_|.list _,_::_::_,_,_,h,_=>by cases h
theorem Ti:∀ {n:Nat}{k:Kind}{t:TypeId}{d:Nat}{ts:List TypeId}{fuel:Nat}{cs:List Value}{x:DataW H×List MemPlace},KTy P n k t=true->k.lev1=true->P.cellTypes d t=some ts->okc P w r base ts cs->DataW.trod enc P w 0 (λ_=>true) true fuel t cs=some x->∀ ρ U,View w ρ U->ArgIs w ρ U k cs
 |0,_,_,_,_,_,_,_,h,_,_,_,_=>by cases h
 |_+1,_,_,0,_,_,_,_,_,_,h,_,_=>by cases h
 |n+1,k,t,d+1,ts,fuel,cs,x,h,hf,e9,al,hx=>by
  intro ρ U hv;by_cases gF:k.flat=true
  .obtain⟨y,h1,h2,h3⟩:=Dg h gF hx;exact⟨ρ,U,cs,y,hv,More.refl _ _,h3 _ _,h1 _,h2⟩
  unfold KTy at h;cases hu:P.underlying t with
  |none=>rw[hu] at h;cases h
  |some u =>
   rw[hu] at h;let Q:TypeId->List Value->Prop:=λt cs=>(∃ fuel x,DataW.trod enc P w 0 (λ_=>true) true fuel t cs=some x)/\∃ ts,P.cellTypes d t=some ts/\okc P w r base ts cs;let R:Kind->List Value->Prop:=λk cs=>k.lev1=true->∀ ρ U,View w ρ U->ArgIs w ρ U k cs;have hR:∀ a b cs ds,R a cs->R b ds->R (.pair a b) (cs++ds):=λa b cs ds h1 h2 hl ρ U hv=>by simp only[Kind.lev1,z1] at hl;exact(h1 hl.1 ρ U hv).pair fun ρ U hv=>h2 hl.2 ρ U hv
   have hT:∀ k t cs,KTy P n k t=true->Q t cs->R k cs:=λk t cs h1 ⟨⟨fuel,x,h2⟩,ts,h3,h4⟩ hl=>Ti h1 hl h3 h4 h2;have hlen:∀ k t ts,KTy P n k t=true->P.cellTypes d t=some ts->ts.length=k.size:=λk t ts h1 h2=>Ck h1 h2;unfold Program.cellTypes at e9;rw[hu] at e9;cases u<;>first|(cases h;done)|skip
   all_goals simp only at h
   .split at h<;>first|(cases h;done)|(exact absurd rfl gF)
   .split at h<;>first|(cases h;done)|(exact absurd rfl gF)
   .split at h<;>first|(cases h;done)|(exact absurd rfl gF)
   .rename_i e;split at h<;>first|(cases h;done)|skip
    simp only[z1,zj] at h;simp only[xe] at e9;subst e9;rcases zt _ _▸h.2.1 with hk|hk
    .exact hv.list hu h.1 hk h.2.2 hx al
    .rename_i k';rw[z1] at hk;obtain⟨hk,gJ⟩:=hk;cases k'<;>first|(cases hk;done)|skip
     rename_i k2;have h3:=h.2.2;unfold Q7e at gJ;split at gJ<;>first|(cases gJ;done)|skip
     rename_i e2 jM;cases n with
     |zero=>cases h3
     |succ n =>unfold KTy at h3;rw[jM] at h3;simp only[z1,zj] at h3;exact hv.list2 hu h.1 jM h3.1 hk h3.2.2 hx al
   .rename_i m e;simp only[z1,zj] at h;obtain⟨xs,m',_,_,hl,eO,hx⟩:=DataW.trod_array hu hx;simp only at e9;cases hc:P.cellTypes d e with
    |none=>rw[hc] at e9;cases e9
    |some te =>
     rw[hc] at e9;obtain rfl:=osj e9;have nH:((List.range m).map λi=>(e,i*P.cellsOf e)).mapM (λp:TypeId×Nat=>P.cellTypes d p.1)=some (List.replicate m te):=by rw[Nh,Mw (x:=te) (λ_=>hc)];simp
     have:=Nl (Q:=Q) (R:=R) hT hR cs h.2 (λp hp=>by
      have gp:=BA (g:=λt=>P.cellTypes d t) hlen h.2 nH p hp
      grind [List.getElem?_eq_getElem,A0]) hf ρ U hv
     rwa [xr,zC (by omega)] at this
   .rename_i fs;simp only[z1,zj] at h;obtain⟨xs,m',_,_,hl,eO,hx⟩:=DataW.trod_struct hu hx;simp only at e9;cases hc:fs.toList.mapM λf=>P.cellTypes d f.type with
    |none=>rw[hc] at e9;cases e9
    |some iw =>
     rw[hc] at e9;obtain rfl:=osj e9;have nH:(fs.toList.map λf=>(f.type,f.offset)).mapM (λp:TypeId×Nat=>P.cellTypes d p.1)=some iw:=by rw[Nh];exact hc
     have:=Nl (Q:=Q) (R:=R) hT hR cs h.2 (λp hp=>by
      have gp:=BA (g:=λt=>P.cellTypes d t) hlen h.2 nH p hp
      grind [Np,Array.getElem?_eq_some_iff,List.getElem?_eq_getElem,A0]) hf ρ U hv
     rwa [xr,zC (by omega)] at this
def isAgg (P:Program) (t:TypeId):Bool:=match P.underlying t with
 |some (.struct _)=>true
 |some (.array _ _)=>true
 |_=>false
theorem View.arg {ρ:Plc}{U:Heap}(h:View w ρ U) {n:Nat}{k:Kind}{t:TypeId}{v:Value}{d:DataW H}{p:List MemPlace}(hk:KTy P n k t=true) (hl:k.lev1=true) (ha:isAgg P t=!k.one) (al:Value.okWide P w r base t v) (hd:DataW.Trod enc P w 0 (λ_=>true) true t v d p) :
  ∃ ρ' U' vv x,View w ρ' U'/\More ρ U ρ' U'/\VRel ρ' U'.n vv v/\KV U' k x vv/\KWf k x:=by
 obtain⟨fuel,hd⟩:=hd;by_cases gi:isAgg P t=true
 .have bJ:k.one=false:=by rw[gi] at ha;simpa using ha.symm
  have:∃ cs,v=.agg cs/\cs.size=P.cellsOf t/\Row.okWide P w r base t cs:=by
   unfold isAgg at gi;unfold Value.okWide at al
   grind
  obtain⟨cs,rfl,az,ts,e9,_,cj⟩:=this;have hlen:=Ck hk e9;have aw:P.cellsOf t=k.size:=by
   unfold isAgg at gi;cases n with
   |zero=>cases hk
   |succ n =>
    unfold KTy at hk;split at gi<;>first|(cases gi;done)|skip
    all_goals
     rename_i hu;rw[hu] at hk;simp only[z1,zj] at hk;exact hk.1
  have mu:okc P w r base ts cs.toList:=λi v u h1 h2=>by
   grind [List.getElem?_eq_some_iff,Nat.mod_eq_of_lt,osj]
  obtain⟨ρ',U',vs,x,k1,k2,k3,k4,k5⟩:=Ti hk hl e9 mu (show DataW.trod enc P w 0 _ true fuel t cs.toList=_ from hd) ρ U h;exact⟨ρ',U',.agg vs.toArray,x,k1,k2,VRel.q1n (ds:=cs.toList) k3,.inr ⟨bJ,vs,rfl,k4⟩,k5⟩
 .have bJ:k.one=true:=by
   simp_all
  have iY:=Kind.q1v bJ;have a8:Cell.okWide P w r base t v/\v.cells.toList=[v]:=by
   have h1:isAgg P t=false:=by simpa using gi
   unfold isAgg at h1;have h2:Cell.okWide P w r base t v:=by
    unfold Value.okWide at al
    grind
   refine⟨h2,?_⟩;cases v<;>first|rfl|skip
   all_goals
    exfalso;cases n with
    |zero=>cases hk
    |succ n =>
     unfold KTy at hk;unfold Cell.okWide Cell.ok at h2;cases hu:P.underlying t with
     |none=>rw[hu] at hk;cases hk
     |some u =>rw[hu] at hk h2 h1;cases u<;>first|(cases hk;done)|(cases h1;done)|(cases h2;done)|(simp at h2;done)
  have e9:P.cellTypes 1 t=some [t]:=by
   have h1:isAgg P t=false:=by simpa using gi
   unfold isAgg at h1;unfold Program.cellTypes;cases n with
   |zero=>cases hk
   |succ n =>
    unfold KTy at hk;cases hu:P.underlying t with
    |none=>rw[hu] at hk;cases hk
    |some u =>rw[hu] at h1;cases u<;>first|rfl|(cases h1;done)
  rw[a8.2] at hd;have mu:okc P w r base [t] [v]:=λi v' u h1 h2=>by
   grind
  obtain⟨ρ',U',vs,x,k1,k2,k3,k4,k5⟩:=Ti hk hl e9 mu hd ρ U h;have:vs.length=1:=by rw[KC.length k4];exact iY
  obtain⟨vv,rfl⟩:=z_.1 this;exact⟨ρ',U',vv,x,k1,k2,k3.2 0 _ _ rfl rfl,.inl ⟨bJ,k4⟩,k5⟩
def AWf:(ks:List Kind)->AT ks->Prop
 |[],_=>True
 |[k],x=>KWf k x
 |k::k'::ks,x=>KWf k x.1/\AWf (k'::ks) x.2
def Q25 (P:Program):List Kind->List TypeId->Bool
 |[],[]=>true
 |k::ks,t::ts=>(KTy P 8 k t&&(k.lev1&&(isAgg P t==!k.one)))&&Q25 P ks ts
 |_,_=>false
theorem View.args:∀ {ks:List Kind}{ts:List TypeId}{vs:List Value}{ds:List (DataW H)}{ps:List MemPlace}{ρ:Plc}{U:Heap},View w ρ U->Q25 P ks ts=true->(∀ (j:Nat) t v,ts[j]?=some t->vs[j]?=some v->Value.okWide P w r base t v)->DataW.TrodAll enc P w 0 (λ_=>true) true ts vs ds ps ->
  ∃ ρ' U' mQ x,View w ρ' U'/\More ρ U ρ' U'/\LRel ρ' U'.n mQ vs/\PK U' ks x mQ/\AWf ks x
 |[],[],vs,ds,ps,ρ,U,h,_,_,hA=>by obtain⟨rfl,rfl,rfl⟩:=trodAll_nil hA;exact⟨ρ,U,[],(),h,More.refl _ _,.nil _ _,rfl,trivial⟩
 |[k],[t],vs,ds,ps,ρ,U,h,hk,hv,hA=>by obtain⟨v,cG,d,ds',p,q,rfl,rfl,rfl,h1,h2⟩:=trodAll_cons hA;obtain⟨rfl,rfl,rfl⟩:=trodAll_nil h2;simp only[Q25,z1,zj] at hk;obtain⟨ρ',U',vv,x,k1,k2,k3,k4,k5⟩:=h.arg hk.1.1 hk.1.2.1 hk.1.2.2 (hv 0 t v rfl rfl) h1;exact⟨ρ',U',[vv],x,k1,k2,.one k3,⟨vv,rfl,k4⟩,k5⟩
 |k::k'::ks,t::ts,vs,ds,ps,ρ,U,h,hk,hv,hA=>by obtain⟨v,cG,d,ds',p,q,rfl,rfl,rfl,h1,h2⟩:=trodAll_cons hA;simp only[Q25,z1,zj] at hk;obtain⟨ρ1,σ1,vv,x,k1,k2,k3,k4,k5⟩:=h.arg hk.1.1 hk.1.2.1 hk.1.2.2 (hv 0 t v rfl rfl) h1;obtain⟨ρ2,σ2,mQ,y,m1,m2,m3,m4,m5⟩:=k1.args (ks:=k'::ks) hk.2 (λj t v h1 h2=>hv (j+1) t v h1 h2) h2;exact⟨ρ2,σ2,vv::mQ,(x,y),m1,k2.trans m2,.cons (k3.mono m2.n m2.pl) m3,⟨vv,mQ,rfl,k4.vcall m2.le,m4⟩,k5,m5⟩
 |[],_::_,_,_,_,_,_,_,hk,_,_|_::_,[],_,_,_,_,_,_,hk,_,_|[_],_::_::_,_,_,_,_,_,_,hk,_,_=>by simp[Q25] at hk
theorem Ik (hT:Q7o w) {f:Nat}{sp:CSp}(eK:OkC P f sp) (he:ZT P f) {ks:List Kind}{ts:List TypeId}{args:Array Value}{ds:List (DataW H)}{ps:List MemPlace}(hk:Q25 P ks ts=true)
  (hv:∀ (j:Nat) t v,ts[j]?=some t->args.toList[j]?=some v->Value.okWide P w r base t v) (hA:DataW.TrodAll enc P w 0 (λ_=>true) true ts args.toList ds ps)
  (hs:∀ x:AT ks,AWf ks x->∃ c,sp (λ_ _=>none) (Tl ks x)=some (c,.val .bo true,[])/\c):Calls P f args w λe w'=>e=.returned (.bool true)/\Below w.heap.size w w':=by
 obtain⟨ρ,U,mQ,x,k1,k2,k3,k4,k5⟩:=(View.emptyT w hT).args hk hv hA;obtain⟨c,h1,h2⟩:=hs x k5;exact k1.calls k3 (eK.true he (UN k4) h1 h2)
end
end Go.V
namespace Go.V
open Go
theorem BY {H:Type}{enc:TypeId×Value->H}{P:Program}{w:World}{b:Nat}{sp:Nat->Bool}{hd:Bool}:∀ {ts:List TypeId}{vs:List Value}{ds:List (DataW H)}{ps:List MemPlace},DataW.TrodAll enc P w b sp hd ts vs ds ps->ds.length=ts.length
 |[],[],[],_,_=>rfl
 |t::ts,v::vs,d::ds,ps,h=>by obtain⟨p,q,_,h2,_⟩:=h;simp[BY h2]
 |[],[],_::_,_,h|[],_::_,_,_,h|_::_,[],_,_,h|_::_,_::_,[],_,h=>h.elim
end Go.V
namespace Go.Proofs.Tryz
open Go Go.V
def Q7b:List (Option FEnt):=[
 none,
 none,
 some (.code c2 [] 1),
 some (.code c3 [.tmp 6] 186),
 some (.code c4 [.tmp 6] 22),
 some (.code c5 [.tmp 0] 240),
 some (.code c6 [.tmp 4] 22),
 some (.code c7 [.tmp 4] 52),
 some (.code c8 [.cell 2 true 2] 9),
 some (.code c9 [.cell 2 true 2] 9),
 some (.codeJ c10 [.tmp 6,.tmp 7,.tmp 8] 106),
 some (.codeJ c11 [.tmp 6,.tmp 7] 50),
 some (.code c12 [.tmp 4] 38),
 some (.code c13 [.tmp 4] 28),
 some (.code c14 [.tmp 4] 26),
 some (.code c15 [.tmp 4] 46),
 some (.code c16 [] 107),
 some (.code c17 [.tmp 4] 26),
 some (.codeJ c18 [.tmp 6,.tmp 7] 61),
 some (.code c19 [.cell 0 true 2] 3),
 some (.codeJ c20 [.tmp 4,.tmp 5] 31),
 some (.codeJ c21 [.tmp 2,.tmp 3] 40),
 some (.codeJ c22 [.tmp 2,.tmp 3] 75),
 some (.code c23 [.tmp 2,.tmp 3] 52),
 some (.codeJ c24 [.tmp 2,.tmp 3] 55),
 some (.codeJ c25 [.cell 4 false 1,.tmp 5,.tmp 6] 86),
 some (.codeJ c26 [.tmp 6,.tmp 7,.tmp 8] 97),
 some (.code c27 [.tmp 2] 33),
 some (.code c28 [.tmp 2] 35),
 some (.code c29 [.tmp 6] 15),
 some (.code c30 [.tmp 2] 6),
 some (.code c31 [.cell 6 true 4,.tmp 7] 50),
 some (.codeJ c32 [.tmp 2,.tmp 3] 46),
 some (.code c33 [.tmp 4] 16),
 some (.code c34 [.tmp 9] 45),
 some (.code c35 [.tmp 4] 19),
 some (.code c36 [.tmp 2] 25),
 some (.code c37 [.tmp 6] 36),
 some (.code c38 [.tmp 4] 26),
 some (.code c39 [.tmp 4,.tmp 5] 43),
 some (.code c40 [.tmp 4] 28),
 some (.code c41 [.tmp 2] 11),
 some (.code c42 [.tmp 2] 22),
 some (.code c43 [.tmp 4] 10),
 some (.code c44 [.tmp 4] 9),
 some (.code c45 [.tmp 4] 48),
 some (.code c46 [.tmp 2] 7),
 some (.code c47 [.tmp 4] 19),
 some (.code c48 [.tmp 3] 8),
 some (.code c49 [.tmp 2] 8),
 some (.code c50 [.tmp 2] 4),
 some (.code c51 [] 28),
 some (.code c52 [.tmp 3] 20),
 some (.code c53 [.tmp 6] 11),
 some (.code c54 [.tmp 4] 22),
 some (.code c55 [.tmp 4] 9),
 some (.code c56 [.tmp 4] 48),
 some (.code c57 [.tmp 4] 48),
 some (.code c58 [.tmp 6] 15),
 some (.code c59 [.tmp 3] 15),
 some (.code c60 [.tmp 4] 43),
 some (.code c61 [.tmp 4] 9),
 some (.code c62 [.tmp 4] 30),
 some (.code c63 [.tmp 4] 22),
 some (.code c64 [.tmp 2] 27),
 some (.code c65 [.tmp 2] 28),
 some (.code c66 [.tmp 4] 22),
 some (.code c67 [.tmp 2] 4),
 some (.code c68 [.tmp 2] 25),
 some (.code c69 [] 19),
 some (.code c70 [.tmp 4] 9),
 some (.code c71 [.tmp 4] 13),
 some (.code c72 [.tmp 4] 19),
 some (.code c73 [.tmp 4,.tmp 5] 30),
 some (.code c74 [.tmp 4] 17),
 some (.code c75 [.tmp 4] 23),
 some (.code c76 [.cell 2 true 256,.tmp 3] 21),
 some (.code c77 [.tmp 4] 16),
 some (.code c78 [.tmp 4] 22),
 some (.code c79 [.tmp 4] 23),
 some (.code c80 [.tmp 4] 34),
 some (.code c81 [.tmp 4] 19),
 some (.code c82 [.tmp 4] 17),
 some (.code c83 [.tmp 2] 14),
 some (.code c84 [.tmp 6] 11),
 some (.code c85 [.tmp 6] 11),
 some (.code c86 [.tmp 2] 4),
 some (.code c87 [.tmp 6] 17),
 some (.code c88 [] 19),
 some (.code c89 [.tmp 4] 19),
 some (.code c90 [.tmp 4,.tmp 5] 17),
 some (.code c91 [.tmp 4,.tmp 5] 51),
 some (.code c92 [.tmp 4] 10),
 some (.code c93 [.tmp 2,.tmp 3] 19),
 some (.code c94 [.tmp 4] 9),
 some (.code c95 [.tmp 2,.tmp 3] 51),
 some (.code c96 [] 20),
 some (.code c97 [.tmp 4] 13),
 some (.code c98 [.tmp 4] 13),
 some (.code c99 [.tmp 2,.tmp 3] 117),
 some (.code Q72 [.tmp 4] 187),
 some (.code Q78 [.tmp 2] 6),
 some .same,
 some (.code Q79 [.tmp 4] 8),
 some (.code Q7t [.tmp 2] 17),
 some (.code Q7p [.tmp 2] 6),
 none,
 some (.code Q7k [.tmp 4] 8)]
def tab:Tab:=λf=>(Q7b[f]?).join
theorem Q15:EntsOk Tryz.prog 0 Q7b:=⟨trivial,trivial,Q80,fun3,Q7d,Q76,Q7c,Q7n,Q7u,Q7h,Q3n,Q3v,Q3p,Q2d,Q3f,Q2f,Q2t,Q45,Q52,Q5g,Q5h,Q6o,Q5s,Q6c,Q4r,Q4x,Q6i,Q3j,Q2e,Q3q,Q2h,Q2r,Q0r,Q3w,Q4i,Q2b,Q3h,Q4d,Q5q,Q41,Q5o,Q5y,Q5u,Q68,Q5w,Q69,Q5v,Q6b,Q5x,Q6k,Q58,Q56,Q6q,Q57,Q2o,Q5c,Q53,Q5t,Q3m,Q2v,fun60,Q48,Q46,Q4b,Q3o,Q42,Q3b,Q5r,Q6n,Q6v,Q2s,Q62,Q5b,Q65,Q5e,Q4u,Q54,Q67,Q50,Q5d,Q4t,Q2y,Q3u,Q3e,Q3k,Q29,Q34,Q43,Q6u,Q4f,Q4v,Q6p,Q55,Q66,Q6h,Q5j,Q4e,Q3t,Q3c,Q6m,Q2q,Q3y,Tp,Q33,Q36,Q30,trivial,Q4c,trivial⟩
theorem Q2a:TabOk Tryz.prog tab:=O0 Q15
theorem Ip:SF tab 300 Vz [] c5 none (ET.of [] 240) CH.empty (Q1k false [.tmp 0] λv _=>isTrue v)=true:=by kernel_rfl
theorem OM {U:Heap}{K:Value->Heap->Prop}(hK:K (.bool true) U):VCalled Tryz.prog 5 [] U K:=OA mixed Q2a 300 Q76 (by decide) Ip hK
end Go.Proofs.Tryz
namespace Go.Proofs.Tryz
open Go Go.V Go.Proofs
def Ht:AL (Unit):=.nil
def Bq (d:Unit):Prop:=True
def Di (d:Unit):SV:=.val .bo true
def B9 (d:Unit):List OB:=[]
def Nj:CSp:=W2 Ht Bq Di B9
abbrev HP:Prop:=OkC Tryz.prog 5 Nj
theorem Hk:HP:=IJ λ_ _ h=>OM h
def Yw:AL ((Int×List Int)×(Int×List Int)×List (List UInt8)):=(.cons (.agg (.cons (.k (.i .i64)) (.one (.k (.list (.i .i64)))))) (.cons (.agg (.cons (.k (.i .i64)) (.one (.k (.list (.i .i64)))))) (.one (.k (.list .st)))))
def M3 (d:(Int×List Int)×(Int×List Int)×List (List UInt8)):Prop:=True
def Y8 (d:(Int×List Int)×(Int×List Int)×List (List UInt8)):SV:=.val .bo true
def Yc (d:(Int×List Int)×(Int×List Int)×List (List UInt8)):List OB:=[]
def Kw:CSp:=W2 Yw M3 Y8 Yc
abbrev Q3 (hk:Int) (lw:List Int) (hd:Int) (rows:List Int) (c:List (List UInt8)):=((hk=hk/\lw=lw/\(([]:List SV)=[]))/\(hd=hd/\rows=rows/\(([]:List SV)=[]))/\((0:Int)=(0:Int)/\True/\(([]:List SV)=[]))/\((0:Int)=(0:Int)/\True/\(([]:List SV)=[]))/\(lw=lw/\false=false)/\(rows=rows/\false=false)/\((([]:List (List UInt8))++c)=(([]:List (List UInt8))++c)/\(c.isEmpty&&false)=(c.isEmpty&&false))/\True)
abbrev Q1 (c:List (List UInt8)):=(((List.length ([]:List (List UInt8)))+c.length)*16<=70368744177664)
abbrev Q2 (hk:Int):=(hk=hk/\True/\(([]:List SV)=[]))
abbrev Q4 (hd:Int):=(hd=hd/\True/\(([]:List SV)=[]))
abbrev XA (hk:Int) (lw:List Int) (hd:Int) (rows:List Int) (c:List (List UInt8)):=(N1 lw (QF hk lw hd rows) c (lw.length-([]:List Int).length) ([]:List Int) (List.replicate (Int.toNat (lI lw)) (false:Bool)) (0:Int) (([]:List Int),((0:Int),(0:Int))))
abbrev Qf (c:List (List UInt8)):=(([]:List (List UInt8))++c)
abbrev YI (hk:Int) (lw:List Int) (hd:Int) (rows:List Int):=((hk=hk/\lw=lw/\(([]:List SV)=[]))/\(hd=hd/\rows=rows/\(([]:List SV)=[]))/\True)
abbrev Mx (hk:Int) (lw:List Int) (hd:Int) (rows:List Int) (c:List (List UInt8)):=((((Zl hk lw hd rows (Qf c))==(0:Int))&&((GD hk lw hd rows (Qf c))==((XA hk lw hd rows c).1)))&&((Rx hk lw hd rows (Qf c))==((XA hk lw hd rows c).2.1)))
def Jd (hk:Int) (lw:List Int) (hd:Int) (rows:List Int) (c:List (List UInt8)):Prop :=
 (True)/\(((decide (110<lw.length)||decide (110<([]:List Int).length)||decide (70<rows.length))||(decide ((lI c) > (70:Int))))=true ->
  (True)/\(true=true/\(True))) /\
 (((decide (110<lw.length)||decide (110<([]:List Int).length)||decide (70<rows.length))||(decide ((lI c) > (70:Int))))=false ->
  (True)/\∃ (e3:Unit),Q6r (λ(q3:(Int)->Prop) =>
  ((((Qb hk lw hd rows)==(0:Int))&&((lI c) != (lI rows)))=true ->
   (∃ d4:Int,((c=c/\True/\True/\(4:Int)=d4/\True)/\(YI hk lw hd rows))/\q3 d4)) /\
  ((((Qb hk lw hd rows)==(0:Int))&&((lI c) != (lI rows)))=false ->
   (∃ d5:Int,((c=c/\True/\True/\(Qb hk lw hd rows)=d5/\True)/\(YI hk lw hd rows))/\q3 d5)))
  (λ(d3:Int) =>
   ((d3==(0:Int))=true->c.length<=1000)/\∃ (e8:Unit),Q6r (λ(q8:(Int)->Prop) =>
   (((d3==(0:Int))&&((ZN c (lI lw)) != (0:Int)))=true ->
    (∃ d9:Int,((c=c/\True/\True/\(4:Int)=d9/\True)/\(YI hk lw hd rows))/\q8 d9)) /\
   (((d3==(0:Int))&&((ZN c (lI lw)) != (0:Int)))=false ->
    (∃ d10:Int,((c=c/\True/\True/\d3=d10/\True)/\(YI hk lw hd rows))/\q8 d10)))
   (λ(d8:Int) =>
    (((d8==(0:Int))&&(decide ((lI lw) > (7:Int))))=true ->
     (True)/\(true=true/\(True))) /\
    (((d8==(0:Int))&&(decide ((lI lw) > (7:Int))))=false ->
     (lw.length<=110)/\(false=true->lw=[])/\(rows.length<=110)/\(false=true->rows=[])/\(Q1 c)/\((c=c/\True/\True/\d8=d8/\True/\True/\(Q2 hk)/\(Q4 hd)/\True/\True)/\(Q3 hk lw hd rows c))/\((lw.length<=110)/\(false=true->lw=[])/\(rows.length<=110)/\(false=true->rows=[])/\(Q1 c)/\((c=c/\True/\True/\d8=d8/\True/\True/\(Q2 hk)/\(Q4 hd)/\True/\True)/\(Q3 hk lw hd rows c)))/\((lw.length<=110)/\(false=true->lw=[])/\(rows.length<=110)/\(false=true->rows=[])/\(Q1 c)/\((c=c/\True/\True/\d8=d8/\True/\True/\(Q2 hk)/\(Q4 hd)/\True/\True)/\(Q3 hk lw hd rows c)))/\((lw.length<=110)/\(false=true->lw=[])/\(rows.length<=110)/\(false=true->rows=[])/\(Q1 c)/\((c=c/\True/\True/\d8=d8/\True/\True/\(Q2 hk)/\(Q4 hd)/\True/\True)/\(Q3 hk lw hd rows c)))/\((lw.length<=110)/\(false=true->lw=[])/\(rows.length<=110)/\(false=true->rows=[])/\(Q1 c)/\((c=c/\True/\True/\d8=d8/\True/\True/\(Q2 hk)/\(Q4 hd)/\True/\True)/\(Q3 hk lw hd rows c)))/\((lw.length<=110)/\(false=true->lw=[])/\(rows.length<=110)/\(false=true->rows=[])/\(Q1 c)/\((c=c/\True/\True/\d8=d8/\True/\True/\(Q2 hk)/\(Q4 hd)/\True/\True)/\(Q3 hk lw hd rows c)))/\((lw.length<=110)/\(false=true->lw=[])/\(rows.length<=110)/\(false=true->rows=[])/\(Q1 c)/\((c=c/\True/\True/\d8=d8/\True/\True/\(Q2 hk)/\(Q4 hd)/\True/\True)/\(Q3 hk lw hd rows c)))/\((lw.length<=110)/\(false=true->lw=[])/\(rows.length<=110)/\(false=true->rows=[])/\(Q1 c)/\((c=c/\True/\True/\d8=d8/\True/\True/\(Q2 hk)/\(Q4 hd)/\True/\True)/\(Q3 hk lw hd rows c)))/\((lw.length<=110)/\(false=true->lw=[])/\(rows.length<=110)/\(false=true->rows=[])/\(Q1 c)/\((c=c/\True/\True/\d8=d8/\True/\True/\(Q2 hk)/\(Q4 hd)/\True/\True)/\(Q3 hk lw hd rows c)))/\((lw.length<=110)/\(false=true->lw=[])/\(rows.length<=110)/\(false=true->rows=[])/\(Q1 c)/\((c=c/\True/\True/\d8=d8/\True/\True/\(Q2 hk)/\(Q4 hd)/\True/\True)/\(Q3 hk lw hd rows c)))/\((lw.length<=110)/\(false=true->lw=[])/\(rows.length<=110)/\(false=true->rows=[])/\(Q1 c)/\((c=c/\True/\True/\d8=d8/\True/\True/\(Q2 hk)/\(Q4 hd)/\True/\True)/\(Q3 hk lw hd rows c)))/\((lw.length<=110)/\(false=true->lw=[])/\(rows.length<=110)/\(false=true->rows=[])/\(Q1 c)/\((c=c/\True/\True/\d8=d8/\True/\True/\(Q2 hk)/\(Q4 hd)/\True/\True)/\(Q3 hk lw hd rows c)))/\((lw.length<=110)/\(false=true->lw=[])/\(rows.length<=110)/\(false=true->rows=[])/\(Q1 c)/\((c=c/\True/\True/\d8=d8/\True/\True/\(Q2 hk)/\(Q4 hd)/\True/\True)/\(Q3 hk lw hd rows c)))/\((lw.length<=110)/\(false=true->lw=[])/\(rows.length<=110)/\(false=true->rows=[])/\(Q1 c)/\((c=c/\True/\True/\d8=d8/\True/\True/\(Q2 hk)/\(Q4 hd)/\True/\True)/\(Q3 hk lw hd rows c)))/\((lw.length<=110)/\(false=true->lw=[])/\(rows.length<=110)/\(false=true->rows=[])/\(Q1 c)/\((c=c/\True/\True/\d8=d8/\True/\True/\(Q2 hk)/\(Q4 hd)/\True/\True)/\(Q3 hk lw hd rows c)))/\((lw.length<=110)/\(false=true->lw=[])/\(rows.length<=110)/\(false=true->rows=[])/\(Q1 c)/\((c=c/\True/\True/\d8=d8/\True/\True/\(Q2 hk)/\(Q4 hd)/\True/\True)/\(Q3 hk lw hd rows c)))/\((lw.length<=110)/\(false=true->lw=[])/\(rows.length<=110)/\(false=true->rows=[])/\(Q1 c)/\((c=c/\True/\True/\d8=d8/\True/\True/\(Q2 hk)/\(Q4 hd)/\True/\True)/\(Q3 hk lw hd rows c)))/\((lw.length<=110)/\(false=true->lw=[])/\(rows.length<=110)/\(false=true->rows=[])/\(Q1 c)/\((c=c/\True/\True/\d8=d8/\True/\True/\(Q2 hk)/\(Q4 hd)/\True/\True)/\(Q3 hk lw hd rows c)))/\((lw.length<=110)/\(false=true->lw=[])/\(rows.length<=110)/\(false=true->rows=[])/\(Q1 c)/\((c=c/\True/\True/\d8=d8/\True/\True/\(Q2 hk)/\(Q4 hd)/\True/\True)/\(Q3 hk lw hd rows c)))/\((lw.length<=110)/\(false=true->lw=[])/\(rows.length<=110)/\(false=true->rows=[])/\(Q1 c)/\((c=c/\True/\True/\d8=d8/\True/\True/\(Q2 hk)/\(Q4 hd)/\True/\True)/\(Q3 hk lw hd rows c)))/\((lw.length<=110)/\(false=true->lw=[])/\(rows.length<=110)/\(false=true->rows=[])/\(Q1 c)/\((c=c/\True/\True/\d8=d8/\True/\True/\(Q2 hk)/\(Q4 hd)/\True/\True)/\(Q3 hk lw hd rows c)))/\((lw.length<=110)/\(false=true->lw=[])/\(rows.length<=110)/\(false=true->rows=[])/\(Q1 c)/\((c=c/\True/\True/\d8=d8/\True/\True/\(Q2 hk)/\(Q4 hd)/\True/\True)/\(Q3 hk lw hd rows c)))/\((lw.length<=110)/\(false=true->lw=[])/\(rows.length<=110)/\(false=true->rows=[])/\(Q1 c)/\((c=c/\True/\True/\d8=d8/\True/\True/\(Q2 hk)/\(Q4 hd)/\True/\True)/\(Q3 hk lw hd rows c)))/\((lw.length<=110)/\(false=true->lw=[])/\(rows.length<=110)/\(false=true->rows=[])/\(Q1 c)/\((c=c/\True/\True/\d8=d8/\True/\True/\(Q2 hk)/\(Q4 hd)/\True/\True)/\(Q3 hk lw hd rows c)))/\((lw.length<=110)/\(false=true->lw=[])/\(rows.length<=110)/\(false=true->rows=[])/\(Q1 c)/\((c=c/\True/\True/\d8=d8/\True/\True/\(Q2 hk)/\(Q4 hd)/\True/\True)/\(Q3 hk lw hd rows c)))/\((lw.length<=110)/\(false=true->lw=[])/\(rows.length<=110)/\(false=true->rows=[])/\(Q1 c)/\((c=c/\True/\True/\d8=d8/\True/\True/\(Q2 hk)/\(Q4 hd)/\True/\True)/\(Q3 hk lw hd rows c)))/\((lw.length<=110)/\(false=true->lw=[])/\(rows.length<=110)/\(false=true->rows=[])/\(Q1 c)/\((c=c/\True/\True/\d8=d8/\True/\True/\(Q2 hk)/\(Q4 hd)/\True/\True)/\(Q3 hk lw hd rows c)))/\((lw.length<=110)/\(false=true->lw=[])/\(rows.length<=110)/\(false=true->rows=[])/\(Q1 c)/\((c=c/\True/\True/\d8=d8/\True/\True/\(Q2 hk)/\(Q4 hd)/\True/\True)/\(Q3 hk lw hd rows c)))/\((lw.length<=110)/\(false=true->lw=[])/\(rows.length<=110)/\(false=true->rows=[])/\(Q1 c)/\((c=c/\True/\True/\d8=d8/\True/\True/\(Q2 hk)/\(Q4 hd)/\True/\True)/\(Q3 hk lw hd rows c)))/\((lw.length<=110)/\(false=true->lw=[])/\(rows.length<=110)/\(false=true->rows=[])/\(Q1 c)/\((c=c/\True/\True/\d8=d8/\True/\True/\(Q2 hk)/\(Q4 hd)/\True/\True)/\(Q3 hk lw hd rows c)))/\((lw.length<=110)/\(false=true->lw=[])/\(rows.length<=110)/\(false=true->rows=[])/\(Q1 c)/\((c=c/\True/\True/\d8=d8/\True/\True/\(Q2 hk)/\(Q4 hd)/\True/\True)/\(Q3 hk lw hd rows c)))/\((lw.length<=110)/\(false=true->lw=[])/\(rows.length<=110)/\(false=true->rows=[])/\(Q1 c)/\((c=c/\True/\True/\d8=d8/\True/\True/\(Q2 hk)/\(Q4 hd)/\True/\True)/\(Q3 hk lw hd rows c)))/\((lw.length<=110)/\(false=true->lw=[])/\(rows.length<=110)/\(false=true->rows=[])/\(Q1 c)/\((c=c/\True/\True/\d8=d8/\True/\True/\(Q2 hk)/\(Q4 hd)/\True/\True)/\(Q3 hk lw hd rows c)))/\((lw.length<=110)/\(false=true->lw=[])/\(rows.length<=110)/\(false=true->rows=[])/\(Q1 c)/\((c=c/\True/\True/\d8=d8/\True/\True/\(Q2 hk)/\(Q4 hd)/\True/\True)/\(Q3 hk lw hd rows c)))/\((lw.length<=110)/\(false=true->lw=[])/\(rows.length<=110)/\(false=true->rows=[])/\(Q1 c)/\((c=c/\True/\True/\d8=d8/\True/\True/\(Q2 hk)/\(Q4 hd)/\True/\True)/\(Q3 hk lw hd rows c)))/\((lw.length<=110)/\(false=true->lw=[])/\(rows.length<=110)/\(false=true->rows=[])/\(Q1 c)/\((c=c/\True/\True/\d8=d8/\True/\True/\(Q2 hk)/\(Q4 hd)/\True/\True)/\(Q3 hk lw hd rows c)))/\((lw.length<=110)/\(false=true->lw=[])/\(rows.length<=110)/\(false=true->rows=[])/\(Q1 c)/\((c=c/\True/\True/\d8=d8/\True/\True/\(Q2 hk)/\(Q4 hd)/\True/\True)/\(Q3 hk lw hd rows c)))/\((lw.length<=110)/\(false=true->lw=[])/\(rows.length<=110)/\(false=true->rows=[])/\(Q1 c)/\((c=c/\True/\True/\d8=d8/\True/\True/\(Q2 hk)/\(Q4 hd)/\True/\True)/\(Q3 hk lw hd rows c)))/\((lw.length<=110)/\(false=true->lw=[])/\(rows.length<=110)/\(false=true->rows=[])/\(Q1 c)/\((c=c/\True/\True/\d8=d8/\True/\True/\(Q2 hk)/\(Q4 hd)/\True/\True)/\(Q3 hk lw hd rows c)))/\((lw.length<=110)/\(false=true->lw=[])/\(rows.length<=110)/\(false=true->rows=[])/\(Q1 c)/\((c=c/\True/\True/\d8=d8/\True/\True/\(Q2 hk)/\(Q4 hd)/\True/\True)/\(Q3 hk lw hd rows c)))/\((lw.length<=110)/\(false=true->lw=[])/\(rows.length<=110)/\(false=true->rows=[])/\(Q1 c)/\((c=c/\True/\True/\d8=d8/\True/\True/\(Q2 hk)/\(Q4 hd)/\True/\True)/\(Q3 hk lw hd rows c)))/\((lw.length<=110)/\(false=true->lw=[])/\(rows.length<=110)/\(false=true->rows=[])/\(Q1 c)/\((c=c/\True/\True/\d8=d8/\True/\True/\(Q2 hk)/\(Q4 hd)/\True/\True)/\(Q3 hk lw hd rows c)))/\((lw.length<=110)/\(false=true->lw=[])/\(rows.length<=110)/\(false=true->rows=[])/\(Q1 c)/\((c=c/\True/\True/\d8=d8/\True/\True/\(Q2 hk)/\(Q4 hd)/\True/\True)/\(Q3 hk lw hd rows c)))/\((lw.length<=110)/\(false=true->lw=[])/\(rows.length<=110)/\(false=true->rows=[])/\(Q1 c)/\((c=c/\True/\True/\d8=d8/\True/\True/\(Q2 hk)/\(Q4 hd)/\True/\True)/\(Q3 hk lw hd rows c)))/\((lw.length<=110)/\(false=true->lw=[])/\(rows.length<=110)/\(false=true->rows=[])/\(Q1 c)/\((c=c/\True/\True/\d8=d8/\True/\True/\(Q2 hk)/\(Q4 hd)/\True/\True)/\(Q3 hk lw hd rows c)))/\((lw.length<=110)/\(false=true->lw=[])/\(rows.length<=110)/\(false=true->rows=[])/\(Q1 c)/\((c=c/\True/\True/\d8=d8/\True/\True/\(Q2 hk)/\(Q4 hd)/\True/\True)/\(Q3 hk lw hd rows c)))/\((lw.length<=110)/\(false=true->lw=[])/\(rows.length<=110)/\(false=true->rows=[])/\(Q1 c)/\((c=c/\True/\True/\d8=d8/\True/\True/\(Q2 hk)/\(Q4 hd)/\True/\True)/\(Q3 hk lw hd rows c)))/\((lw.length<=110)/\(false=true->lw=[])/\(rows.length<=110)/\(false=true->rows=[])/\(Q1 c)/\((c=c/\True/\True/\d8=d8/\True/\True/\(Q2 hk)/\(Q4 hd)/\True/\True)/\(Q3 hk lw hd rows c)))/\((lw.length<=110)/\(false=true->lw=[])/\(rows.length<=110)/\(false=true->rows=[])/\(Q1 c)/\((c=c/\True/\True/\d8=d8/\True/\True/\(Q2 hk)/\(Q4 hd)/\True/\True)/\(Q3 hk lw hd rows c)))/\((lw.length<=110)/\(false=true->lw=[])/\(rows.length<=110)/\(false=true->rows=[])/\(Q1 c)/\((c=c/\True/\True/\d8=d8/\True/\True/\(Q2 hk)/\(Q4 hd)/\True/\True)/\(Q3 hk lw hd rows c)))/\((lw.length<=110)/\(false=true->lw=[])/\(rows.length<=110)/\(false=true->rows=[])/\(Q1 c)/\((c=c/\True/\True/\d8=d8/\True/\True/\(Q2 hk)/\(Q4 hd)/\True/\True)/\(Q3 hk lw hd rows c)))/\((lw.length<=110)/\(false=true->lw=[])/\(rows.length<=110)/\(false=true->rows=[])/\(Q1 c)/\((c=c/\True/\True/\d8=d8/\True/\True/\(Q2 hk)/\(Q4 hd)/\True/\True)/\(Q3 hk lw hd rows c)))/\((lw.length<=110)/\(false=true->lw=[])/\(rows.length<=110)/\(false=true->rows=[])/\(Q1 c)/\((c=c/\True/\True/\d8=d8/\True/\True/\(Q2 hk)/\(Q4 hd)/\True/\True)/\(Q3 hk lw hd rows c)))/\((lw.length<=110)/\(false=true->lw=[])/\(rows.length<=110)/\(false=true->rows=[])/\(Q1 c)/\((c=c/\True/\True/\d8=d8/\True/\True/\(Q2 hk)/\(Q4 hd)/\True/\True)/\(Q3 hk lw hd rows c)))/\((lw.length<=110)/\(false=true->lw=[])/\(rows.length<=110)/\(false=true->rows=[])/\(Q1 c)/\((c=c/\True/\True/\d8=d8/\True/\True/\(Q2 hk)/\(Q4 hd)/\True/\True)/\(Q3 hk lw hd rows c)))/\((lw.length<=110)/\(false=true->lw=[])/\(rows.length<=110)/\(false=true->rows=[])/\(Q1 c)/\((c=c/\True/\True/\d8=d8/\True/\True/\(Q2 hk)/\(Q4 hd)/\True/\True)/\(Q3 hk lw hd rows c)))/\((lw.length<=110)/\(false=true->lw=[])/\(rows.length<=110)/\(false=true->rows=[])/\(Q1 c)/\((c=c/\True/\True/\d8=d8/\True/\True/\(Q2 hk)/\(Q4 hd)/\True/\True)/\(Q3 hk lw hd rows c)))/\((lw.length<=110)/\(false=true->lw=[])/\(rows.length<=110)/\(false=true->rows=[])/\(Q1 c)/\((c=c/\True/\True/\d8=d8/\True/\True/\(Q2 hk)/\(Q4 hd)/\True/\True)/\(Q3 hk lw hd rows c)))/\((lw.length<=110)/\(false=true->lw=[])/\(rows.length<=110)/\(false=true->rows=[])/\(Q1 c)/\((c=c/\True/\True/\d8=d8/\True/\True/\(Q2 hk)/\(Q4 hd)/\True/\True)/\(Q3 hk lw hd rows c)))/\((lw.length<=110)/\(false=true->lw=[])/\(rows.length<=110)/\(false=true->rows=[])/\(Q1 c)/\((c=c/\True/\True/\d8=d8/\True/\True/\(Q2 hk)/\(Q4 hd)/\True/\True)/\(Q3 hk lw hd rows c)))/\((lw.length<=110)/\(false=true->lw=[])/\(rows.length<=110)/\(false=true->rows=[])/\(Q1 c)/\((c=c/\True/\True/\d8=d8/\True/\True/\(Q2 hk)/\(Q4 hd)/\True/\True)/\(Q3 hk lw hd rows c)))/\((lw.length<=110)/\(false=true->lw=[])/\(rows.length<=110)/\(false=true->rows=[])/\(Q1 c)/\((c=c/\True/\True/\d8=d8/\True/\True/\(Q2 hk)/\(Q4 hd)/\True/\True)/\(Q3 hk lw hd rows c)))/\((lw.length<=110)/\(false=true->lw=[])/\(rows.length<=110)/\(false=true->rows=[])/\(Q1 c)/\((c=c/\True/\True/\d8=d8/\True/\True/\(Q2 hk)/\(Q4 hd)/\True/\True)/\(Q3 hk lw hd rows c)))/\((lw.length<=110)/\(false=true->lw=[])/\(rows.length<=110)/\(false=true->rows=[])/\(Q1 c)/\((c=c/\True/\True/\d8=d8/\True/\True/\(Q2 hk)/\(Q4 hd)/\True/\True)/\(Q3 hk lw hd rows c)))/\((lw.length<=110)/\(false=true->lw=[])/\(rows.length<=110)/\(false=true->rows=[])/\(Q1 c)/\((c=c/\True/\True/\d8=d8/\True/\True/\(Q2 hk)/\(Q4 hd)/\True/\True)/\(Q3 hk lw hd rows c)))/\((lw.length<=110)/\(false=true->lw=[])/\(rows.length<=110)/\(false=true->rows=[])/\(Q1 c)/\((c=c/\True/\True/\d8=d8/\True/\True/\(Q2 hk)/\(Q4 hd)/\True/\True)/\(Q3 hk lw hd rows c)))/\((lw.length<=110)/\(false=true->lw=[])/\(rows.length<=110)/\(false=true->rows=[])/\(Q1 c)/\((c=c/\True/\True/\d8=d8/\True/\True/\(Q2 hk)/\(Q4 hd)/\True/\True)/\(Q3 hk lw hd rows c)))/\((lw.length<=110)/\(false=true->lw=[])/\(rows.length<=110)/\(false=true->rows=[])/\(Q1 c)/\((c=c/\True/\True/\d8=d8/\True/\True/\(Q2 hk)/\(Q4 hd)/\True/\True)/\(Q3 hk lw hd rows c)))/\((lw.length<=110)/\(false=true->lw=[])/\(rows.length<=110)/\(false=true->rows=[])/\(Q1 c)/\((c=c/\True/\True/\d8=d8/\True/\True/\(Q2 hk)/\(Q4 hd)/\True/\True)/\(Q3 hk lw hd rows c)))/\((lw.length<=110)/\(false=true->lw=[])/\(rows.length<=110)/\(false=true->rows=[])/\(Q1 c)/\((c=c/\True/\True/\d8=d8/\True/\True/\(Q2 hk)/\(Q4 hd)/\True/\True)/\(Q3 hk lw hd rows c)))/\((lw.length<=110)/\(false=true->lw=[])/\(rows.length<=110)/\(false=true->rows=[])/\(Q1 c)/\((c=c/\True/\True/\d8=d8/\True/\True/\(Q2 hk)/\(Q4 hd)/\True/\True)/\(Q3 hk lw hd rows c)))/\((lw.length<=110)/\(false=true->lw=[])/\(rows.length<=110)/\(false=true->rows=[])/\(Q1 c)/\((c=c/\True/\True/\d8=d8/\True/\True/\(Q2 hk)/\(Q4 hd)/\True/\True)/\(Q3 hk lw hd rows c)))/\((lw.length<=110)/\(false=true->lw=[])/\(rows.length<=110)/\(false=true->rows=[])/\(Q1 c)/\((c=c/\True/\True/\d8=d8/\True/\True/\(Q2 hk)/\(Q4 hd)/\True/\True)/\(Q3 hk lw hd rows c)))/\((lw.length<=110)/\(false=true->lw=[])/\(rows.length<=110)/\(false=true->rows=[])/\(Q1 c)/\((c=c/\True/\True/\d8=d8/\True/\True/\(Q2 hk)/\(Q4 hd)/\True/\True)/\(Q3 hk lw hd rows c)))/\((lw.length<=110)/\(false=true->lw=[])/\(rows.length<=110)/\(false=true->rows=[])/\(Q1 c)/\((c=c/\True/\True/\d8=d8/\True/\True/\(Q2 hk)/\(Q4 hd)/\True/\True)/\(Q3 hk lw hd rows c)))/\((lw.length<=110)/\(false=true->lw=[])/\(rows.length<=110)/\(false=true->rows=[])/\(Q1 c)/\((c=c/\True/\True/\d8=d8/\True/\True/\(Q2 hk)/\(Q4 hd)/\True/\True)/\(Q3 hk lw hd rows c)))/\((lw.length<=110)/\(false=true->lw=[])/\(rows.length<=110)/\(false=true->rows=[])/\(Q1 c)/\((c=c/\True/\True/\d8=d8/\True/\True/\(Q2 hk)/\(Q4 hd)/\True/\True)/\(Q3 hk lw hd rows c)))/\((lw.length<=110)/\(false=true->lw=[])/\(rows.length<=110)/\(false=true->rows=[])/\(Q1 c)/\((c=c/\True/\True/\d8=d8/\True/\True/\(Q2 hk)/\(Q4 hd)/\True/\True)/\(Q3 hk lw hd rows c)))/\((lw.length<=110)/\(false=true->lw=[])/\(rows.length<=110)/\(false=true->rows=[])/\(Q1 c)/\((c=c/\True/\True/\d8=d8/\True/\True/\(Q2 hk)/\(Q4 hd)/\True/\True)/\(Q3 hk lw hd rows c)))/\((lw.length<=110)/\(false=true->lw=[])/\(rows.length<=110)/\(false=true->rows=[])/\(Q1 c)/\((c=c/\True/\True/\d8=d8/\True/\True/\(Q2 hk)/\(Q4 hd)/\True/\True)/\(Q3 hk lw hd rows c)))/\((lw.length<=110)/\(false=true->lw=[])/\(rows.length<=110)/\(false=true->rows=[])/\(Q1 c)/\((c=c/\True/\True/\d8=d8/\True/\True/\(Q2 hk)/\(Q4 hd)/\True/\True)/\(Q3 hk lw hd rows c)))/\((lw.length<=110)/\(false=true->lw=[])/\(rows.length<=110)/\(false=true->rows=[])/\(Q1 c)/\((c=c/\True/\True/\d8=d8/\True/\True/\(Q2 hk)/\(Q4 hd)/\True/\True)/\(Q3 hk lw hd rows c)))/\((lw.length<=110)/\(false=true->lw=[])/\(rows.length<=110)/\(false=true->rows=[])/\(Q1 c)/\((c=c/\True/\True/\d8=d8/\True/\True/\(Q2 hk)/\(Q4 hd)/\True/\True)/\(Q3 hk lw hd rows c)))/\((lw.length<=110)/\(false=true->lw=[])/\(rows.length<=110)/\(false=true->rows=[])/\(Q1 c)/\((c=c/\True/\True/\d8=d8/\True/\True/\(Q2 hk)/\(Q4 hd)/\True/\True)/\(Q3 hk lw hd rows c)))/\((lw.length<=110)/\(false=true->lw=[])/\(rows.length<=110)/\(false=true->rows=[])/\(Q1 c)/\((c=c/\True/\True/\d8=d8/\True/\True/\(Q2 hk)/\(Q4 hd)/\True/\True)/\(Q3 hk lw hd rows c)))/\((lw.length<=110)/\(false=true->lw=[])/\(rows.length<=110)/\(false=true->rows=[])/\(Q1 c)/\((c=c/\True/\True/\d8=d8/\True/\True/\(Q2 hk)/\(Q4 hd)/\True/\True)/\(Q3 hk lw hd rows c)))/\((lw.length<=110)/\(false=true->lw=[])/\(rows.length<=110)/\(false=true->rows=[])/\(Q1 c)/\((c=c/\True/\True/\d8=d8/\True/\True/\(Q2 hk)/\(Q4 hd)/\True/\True)/\(Q3 hk lw hd rows c)))/\((lw.length<=110)/\(false=true->lw=[])/\(rows.length<=110)/\(false=true->rows=[])/\(Q1 c)/\((c=c/\True/\True/\d8=d8/\True/\True/\(Q2 hk)/\(Q4 hd)/\True/\True)/\(Q3 hk lw hd rows c)))/\((lw.length<=110)/\(false=true->lw=[])/\(rows.length<=110)/\(false=true->rows=[])/\(Q1 c)/\((c=c/\True/\True/\d8=d8/\True/\True/\(Q2 hk)/\(Q4 hd)/\True/\True)/\(Q3 hk lw hd rows c)))/\((lw.length<=110)/\(false=true->lw=[])/\(rows.length<=110)/\(false=true->rows=[])/\(Q1 c)/\((c=c/\True/\True/\d8=d8/\True/\True/\(Q2 hk)/\(Q4 hd)/\True/\True)/\(Q3 hk lw hd rows c)))/\(lw.length<=110/\rows.length<=110/\(Qf c).length<=110)/\(lw.length<=110/\rows.length<=110/\(Qf c).length<=110)/\(lw.length<=1000000)/\((!(decide (hk=hk)&&(lw==lw)))=false->rows.length<=1000000)/\(((!(decide (hk=hk)&&(lw==lw)))||(!(decide (hd=hd)&&(rows==rows))))=false->(Qf c).length<=1000000)/\((((!(decide (hk=hk)&&(lw==lw)))||(!(decide (hd=hd)&&(rows==rows))))||(!((Qf c)==c)))=true ->
      (false=true/\(True))) /\
     ((((!(decide (hk=hk)&&(lw==lw)))||(!(decide (hd=hd)&&(rows==rows))))||(!((Qf c)==c)))=false ->
      ((d8 != (0:Int))=true ->
       (((((((Zl hk lw hd rows (Qf c))==d8)&&((Jl hk lw hd rows (Qf c))==d8))&&((lI (GD hk lw hd rows (Qf c)))==(0:Int)))&&((Rx hk lw hd rows (Qf c))==(0:Int)))&&((S1 hk lw hd rows (Qf c))==(0:Int)))=true->True)/\((((((((Zl hk lw hd rows (Qf c))==d8)&&((Jl hk lw hd rows (Qf c))==d8))&&((lI (GD hk lw hd rows (Qf c)))==(0:Int)))&&((Rx hk lw hd rows (Qf c))==(0:Int)))&&((S1 hk lw hd rows (Qf c))==(0:Int)))&&true)=true/\(True))) /\
      ((d8 != (0:Int))=false ->
       (Qb hk lw hd rows=0)/\(false=true->(QF hk lw hd rows)=[])/\(0<=(lI lw))/\((lI lw)<=(lI lw))/\((lI lw)*1<=70368744177664)/\((lI lw)<=70368744177664)/\(lw.length<=7/\(List.replicate (Int.toNat (lI lw)) (false:Bool)).length=lw.length/\([]:List Int).length<=lw.length/\c.length<=1000/\(QF hk lw hd rows).length=c.length/\(∀ s∈c,s.length=lw.length)/\(∀ s∈(QF hk lw hd rows),s.length=lw.length)/\0<=(0:Int)/\(0:Int)<=([]:List Int).length/\0<=(0:Int)/\(0:Int)+(lw.length ^ (lw.length-([]:List Int).length):Nat)<=1000000000)/\((((Jl hk lw hd rows (Qf c)) != (0:Int))||((S1 hk lw hd rows (Qf c)) != ((XA hk lw hd rows c).2.2)))=true ->
        (false=true/\(True))) /\
       ((((Jl hk lw hd rows (Qf c)) != (0:Int))||((S1 hk lw hd rows (Qf c)) != ((XA hk lw hd rows c).2.2)))=false ->
        ((((XA hk lw hd rows c).2.2)==(0:Int))=true ->
         (((((Zl hk lw hd rows (Qf c))==(9:Int))&&((lI (GD hk lw hd rows (Qf c)))==(0:Int)))&&((Rx hk lw hd rows (Qf c))==(0:Int)))=true->True)/\((((((Zl hk lw hd rows (Qf c))==(9:Int))&&((lI (GD hk lw hd rows (Qf c)))==(0:Int)))&&((Rx hk lw hd rows (Qf c))==(0:Int)))&&true)=true/\(True))) /\
        ((((XA hk lw hd rows c).2.2)==(0:Int))=false ->
         (((Zl hk lw hd rows (Qf c))==(0:Int))=true->(GD hk lw hd rows (Qf c)).length<=1000000)/\((Mx hk lw hd rows c)=true->True)/\(((Mx hk lw hd rows c)&&true)=true/\(True))))))))))
def YB:Cx:=⟨[(3,(.i .i64)),(4,.bo),(9,.st)],[(4,Kh),(5,Nj),(6,V7),(7,KP),(8,UW),(9,Va),(10,Mm),(11,UU),(12,V3),(13,Vv),(14,K1),(15,Kf),(17,Vx)],186,[2999999],0,[(16,X1)],[],[],[2,3,4,7,8,9,59,61,64],false,[],[],[],[]⟩
def Mh (hk:Int) (lw:List Int) (hd:Int) (rows:List Int) (c:List (List UInt8)):List (Nat×LoopAnn):=[(3000038,⟨Unit,Int,[2,3,4,7],λe x=>[.val (.list .st) c,.box 3 0,.box 4 0,.val (.i .i64) x],λe x=>[(3,.slot 3,.cells [.val (.i .i64) hk,.val (.list (.i .i64)) lw] (some 24)),(4,.slot 4,.cells [.val (.i .i64) hd,.val (.list (.i .i64)) rows] (some 26))]⟩),
 (3000048,⟨Unit,Int,[2,3,4,7],λe x=>[.val (.list .st) c,.box 3 0,.box 4 0,.val (.i .i64) x],λe x=>[(3,.slot 3,.cells [.val (.i .i64) hk,.val (.list (.i .i64)) lw] (some 24)),(4,.slot 4,.cells [.val (.i .i64) hd,.val (.list (.i .i64)) rows] (some 26))]⟩)]
theorem Mk (d:(Int×List Int)×(Int×List Int)×List (List UInt8)):gwp (YB) (Mh d.1.1 d.1.2 d.2.1.1 d.2.1.2 d.2.2) c3 0 (WC [.tmp 6] (Y8 d) (Yc d)) (Qr 186 (AL.can Yw d))=Jd d.1.1 d.1.2 d.2.1.1 d.2.1.2 d.2.2:=by kernel_rfl
abbrev Mi:Prop:=OkC Tryz.prog 3 Kw
theorem MM (h:∀ (hk:Int) (lw:List Int) (hd:Int) (rows:List Int) (c:List (List UInt8)),(True)->Jd hk lw hd rows c):OkC Tryz.prog 3 Kw :=
 QD fun3 mixed (C:=YB) (V:=λ(d:(Int×List Int)×(Int×List Int)×List (List UInt8))=>Jd d.1.1 d.1.2 d.2.1.1 d.2.1.2 d.2.2) ⟨(.cons H_ (.cons Hk (.cons TC (.cons TM (.cons Sg (.cons Tx (.cons LM (.cons SZ (.cons Ra (.cons Rg (.cons Pd (.cons HT (.cons Rf .nil))))))))))))),(XsOk.cons VP XsOk.nil),ItsOk.nil,YlOk.nil,IysOk.nil,XfOk.nil⟩ (Mk) λd hp=>h d.1.1 d.1.2 d.2.1.1 d.2.1.2 d.2.2 hp
theorem G6 {hk:Int}{lw:List Int}{hd:Int}{rows:List Int}{c:List (List UInt8)}(hw:Qb hk lw hd rows=0) (hl:c.length=rows.length):(if ZN c lw.length≠0 then 4 else (0:Int))=Qj hk lw hd rows c:=by
 obtain⟨e1,e2,rfl⟩:=I2 hw;obtain⟨t1,t2,t3,t4,t5⟩:=Kb e1;obtain⟨p1,p2,p3,p4,p5⟩:=Kj e2;have hi:inI (lw.length:Int) 1 96=true:=by simp[inI];omega
 have h0:¬ 60<c.length:=by omega
 have h1:¬ c.length=0:=by omega
 have h2:¬ ((c.length:Int)≠rows.length):=by omega
 have ef:Qj hd lw hd rows c=if (c.length:Int)≠rows.length\/(c.any λs=>decide ((s.length:Int)≠lw.length)||!HY s)=true then 4 else 0:=by unfold Qj;rw[z7 (by rw[hw];simp)]
 have ec:ZN c lw.length=if (!inI (lw.length:Int) 1 96||c.any (λs=>decide ((s.length:Int)≠lw.length)||!HY s))=true then 4 else 0:=by unfold ZN;rw[z7 h0,z7 h1]
 rw[hi] at ec;by_cases a:(c.any λs=>decide ((s.length:Int)≠lw.length)||!HY s)=true
 .rw[z6 (.inr a)] at ef;rw[z6 (show (!true||c.any λs=>decide ((s.length:Int)≠lw.length)||!HY s)=true from a)] at ec;rw[ef,ec];rfl
 .rw[z7 (by rw[not_or];exact⟨h2,a⟩)] at ef;rw[z7 (show ¬ (!true||c.any λs=>decide ((s.length:Int)≠lw.length)||!HY s)=true from a)] at ec;rw[ef,ec];rfl
theorem ok_law11_EyeFinds:Mi:=MM λhk lw hd rows c _=>by
 unfold Jd;(try delta Q3 Q1 Q2 Q4 XA Qf YI Mx);(try delta lI gD sT I64 Q7 v7 v6)
 (try simp only[])
 repeat (first|refine⟨trivial,?_⟩|refine⟨rfl,?_⟩)
 refine⟨λ_=>(by and_intros<;>first|rfl|trivial|simp),λhs=>?_⟩;simp only[Bool.or_eq_false_iff,zn] at hs;obtain⟨⟨⟨l1,-⟩,l2⟩,l3⟩:=hs;have l3:c.length<=70:=by omega
 repeat (first|refine⟨trivial,?_⟩|refine⟨rfl,?_⟩)
 refine⟨(),λd=>d=(if Qb hk lw hd rows=0/\c.length≠rows.length then 4 else Qb hk lw hd rows),⟨λh=>⟨_,(by and_intros<;>first|rfl|trivial|simp),?_⟩,λh=>⟨_,(by and_intros<;>first|rfl|trivial|simp),?_⟩⟩,λd cW=>?_⟩
 .rw[z6];simp only[z1,zj,bne_iff_ne] at h;exact⟨h.1,by omega⟩
 .rw[z7];rintro⟨a,b⟩;simp only[Bool.and_eq_false_iff,zB,bne_eq_false_iff_eq] at h;omega
 subst cW;repeat (first|refine⟨trivial,?_⟩|refine⟨rfl,?_⟩)
 refine⟨λ_=>by omega,(),λd=>d=Qj hk lw hd rows c,⟨λh=>⟨_,(by and_intros<;>first|rfl|trivial|simp),?_⟩,λh=>⟨_,(by and_intros<;>first|rfl|trivial|simp),?_⟩⟩,λd cW=>?_⟩
 .simp only[z1,zj,bne_iff_ne] at h;obtain⟨h1,h2⟩:=h;split at h1
  .cases h1
  .rename_i c1;have hl:c.length=rows.length:=Decidable.byContradiction λc2=>c1 ⟨h1,c2⟩;rw[<-G6 h1 hl,z6 h2]
 .by_cases h1:Qb hk lw hd rows=0
  .by_cases h2:c.length=rows.length
   .rw[z7 (by rintro⟨_,b⟩;exact b h2),h1] at h |-;simp only[Bool.and_eq_false_iff,zB,bne_eq_false_iff_eq] at h;rw[<-G6 h1 h2,z7 (by omega)]
   .rw[z6 ⟨h1,h2⟩,Qj,z7 (by rw[h1];simp),z6 (.inl (by omega))]
  .rw[z7 (by rintro⟨a,_⟩;exact h1 a),Qj,z6 h1]
 subst cW;refine⟨λ_=>(by and_intros<;>first|rfl|trivial|simp),λhn=>?_⟩;have g1:(lw.length<=110)=True:=eq_true (by omega);have g2:(rows.length<=110)=True:=eq_true (by omega);have g3:(c.length<=110)=True:=eq_true (by omega);have g4:(c.length*16<=70368744177664)=True:=eq_true (by omega);have g5:(lw.length<=1000000)=True:=eq_true (by omega);have g6:(rows.length<=1000000)=True:=eq_true (by omega);have g7:(c.length<=1000000)=True:=eq_true (by omega);by_cases hz:Qj hk lw hd rows c=0
 .obtain⟨w0,bR,aw⟩:=UR hz;obtain⟨e1,e2,rfl⟩:=I2 w0;obtain⟨t1,t2,t3,t4,t5⟩:=Kb e1;have h7:lw.length<=7:=by
   rw[hz] at hn;simp at hn;omega
  obtain⟨k1,k2,k3,k4⟩:=EM hz h7 t5;have hC:QF hd lw hd rows=rows.map (Jj lw):=by simp[QF,w0]
  have hT:N1 lw (QF hd lw hd rows) c (lw.length-([]:List Int).length) [] (List.replicate (Int.toNat (lw.length:Int)) (false:Bool)) 0 (([]:List Int),(0,0))=FQ lw rows c:=by rw[hC];rfl
  have uW:(lw.length ^ lw.length:Nat)<=823543:=by
   have:∀ n,n<=7->n ^ n<=823543:=by decide
   exact this _ h7
  have j1:((QF hd lw hd rows).length=c.length)=True:=eq_true (by rw[hC];simp[bR]);have j2:(∀ s∈c,s.length=lw.length)=True:=eq_true λs hs=>(aw s hs).1;have j3:(∀ s∈QF hd lw hd rows,s.length=lw.length)=True:=eq_true λs hs=>by rw[hC] at hs;obtain⟨r,_,rfl⟩:=x7.1 hs;exact GB _ _
  have j4:((lw.length:Int)<=70368744177664)=True:=eq_true (by omega);have j5:(c.length<=1000)=True:=eq_true (by omega);have j6:(lw.length<=7)=True:=eq_true h7;have j7:(((lw.length ^ lw.length:Nat):Int)<=1000000000)=True:=eq_true (by omega);have j8:((lw.length:Int) ^ lw.length<=1000000000)=True:=eq_true (by rw[<-Int.natCast_pow];omega);have hW:(GD hd lw hd rows c).length<=1000000:=by
   unfold GD;split
   .have:=(Ch lw (eyF lw rows) (waF lw c) lw.length).1;unfold No;omega
   .simp
  simp only[hT];generalize FQ lw rows c=T at *
  by_cases h:T.2.2=0
  .obtain⟨m1,m2,m3⟩:=k3 h;simp[g1,g2,g3,g4,g5,g6,g7,hz,w0,j1,j2,j3,j4,j5,j6,k1,k2,m1,m2,m3,h,j8]
  .obtain⟨m1,m2,m3⟩:=k4 h;rw[m2] at hW;simp[g1,g2,g3,g4,g5,g6,g7,hz,w0,j1,j2,j3,j4,j5,j6,k1,k2,m1,m2,m3,h,j8,hW]
 .have k1:Zl hk lw hd rows c=Qj hk lw hd rows c:=by rw[Zl,z6 hz]
  have k2:Jl hk lw hd rows c=Qj hk lw hd rows c:=by rw[Jl,z6 hz]
  have k3:GD hk lw hd rows c=[]:=by rw[GD,z7 (by rw[k1];exact hz)]
  have k4:Rx hk lw hd rows c=0:=by rw[Rx,z7 (by rw[k1];exact hz)]
  have k5:S1 hk lw hd rows c=0:=by rw[S1,z7 (by rintro⟨a,_⟩;rw[k2] at a;exact hz a)]
  simp[g1,g2,g3,g4,g5,g6,g7,k1,k2,k3,k4,k5,hz]
end Go.Proofs.Tryz