/- A framework for walks, contracts of functions, and their proofs: part 8. -/
import Derived.Test.YtannmfpiibodeaaGreatS7
set_option linter.unusedVariables false
set_option maxRecDepth 100000
namespace Go.Proofs.Tryz
open Go Go.V Go.Proofs
def acR (hb:Int) (cs:List UK):List Int:=Si hb cs 0 (List.replicate cs.length 1)
def acE (hb:Int) (cs:List UK):Int:=XS hb cs 0 (List.replicate cs.length 1)
def acB (hb:Int) (cs:List UK) (hk:Int) (lw:List Int):Bool:=acE hb cs==0&&Q7 hk lw hk (acR hb cs)==0
def acC (hb:Int) (cs:List UK) (hk:Int) (lw:List Int):List (List UInt8):=if acE hb cs=0 then ZV hk lw hk (acR hb cs) else []
def A9:AL (Unit):=.nil
def LU (d:Unit):Prop:=True
def LD (d:Unit):SV:=.val .bo true
def LF (d:Unit):List OB:=[]
def PD:CSp:=Y9 A9 LU LD LF
abbrev ER:Prop:=OkC Tryz.prog 15 PD
theorem EE:ER:=Q6a λ_ _ h=>Q2x h
def E4:AL (Unit):=.nil
def LK (d:Unit):Prop:=True
def LJ (d:Unit):SV:=.val .bo true
def LR (d:Unit):List OB:=[]
def Pp:CSp:=Y9 E4 LK LJ LR
abbrev Au:Prop:=OkC Tryz.prog 16 Pp
theorem AJ:Au:=Q6a λ_ _ h=>Q16 h
def PG:AL (List Int):=(.one (.k (.list (.i .i64))))
def Ew (d:List Int):Prop:=d.length<=1000
def Hs (d:List Int):SV:=.lst 0
def Hz (d:List Int):List OB:=[.lst 3 (.i .i64) d false]
def Nc:CSp:=Y9 PG Ew Hs Hz
def U9 (l:List Int):Prop :=
 (((List.length ([]:List Int))+(List.length l))*8<=70368744177664)/\(True/\(((([]:List Int)++l)=l/\((List.isEmpty l)&&false)=false)/\True))
def Pw:Cx:=⟨[(3,(.i .i64))],[],6,[],0,[],[],[],[],false,[],[],[],[]⟩
def Fs (l:List Int):List (Nat×LoopAnn):=[]
theorem Ia (d:List Int):gwp (Pw) (Fs d) c21 0 (Yh [.tmp 2] (Hs d) (Hz d)) (Qo 6 (AL.can PG d))=U9 d:=by kernel_rfl
abbrev F4:Prop:=OkC Tryz.prog 21 Nc
theorem Fw (h:∀ (l:List Int),(l.length<=1000)->U9 l):OkC Tryz.prog 21 Nc :=
 Qu Z6r mixed (C:=Pw) (V:=λ(d:List Int)=>U9 d) ⟨.nil,XsOk.nil,ItsOk.nil,YlOk.nil,IysOk.nil,XfOk.nil⟩ (Ia) λd hp=>h d hp
theorem PU:F4:=Fw λl h=>by
 (unfold U9;(try delta lI gD sT I64 Q1 pj8 pj4);simp);omega
def R1:AL (Int×List Int):=(.one (.agg (.cons (.k (.i .i64)) (.one (.k (.list (.i .i64)))))))
def FZ (d:Int×List Int):Prop:=d.2.length<=1000
def PA (d:Int×List Int):SV:=.agg [.val (.i .i64) d.1,.lst 0]
def PK (d:Int×List Int):List OB:=[.lst 3 (.i .i64) d.2 false]
def Md:CSp:=Y9 R1 FZ PA PK
def N7 (hd:Int) (rows:List Int):Prop :=
 (rows.length<=1000)/\(false=true->rows=[])/\((hd=hd/\True/\(([]:List SV)=[]))/\((rows=rows/\false=false)/\True))
def R0:Cx:=⟨[],[(21,Nc)],9,[],0,[],[],[],[],false,[],[],[],[]⟩
def OK (hd:Int) (rows:List Int):List (Nat×LoopAnn):=[]
theorem Oc (d:Int×List Int):gwp (R0) (OK d.1 d.2) c6 0 (Yh [.cell 2 true 2] (PA d) (PK d)) (Qo 9 (AL.can R1 d))=N7 d.1 d.2:=by kernel_rfl
abbrev OQ:Prop:=OkC Tryz.prog 6 Md
theorem Ot (h:∀ (hd:Int) (rows:List Int),(rows.length<=1000)->N7 hd rows):OkC Tryz.prog 6 Md :=
 Qu J1q mixed (C:=R0) (V:=λ(d:Int×List Int)=>N7 d.1 d.2) ⟨(.cons PU .nil),XsOk.nil,ItsOk.nil,YlOk.nil,IysOk.nil,XfOk.nil⟩ (Oc) λd hp=>h d.1 d.2 hp
theorem R8:OQ:=Ot λhd rows h=>by simp[N7,h]
def T1:AL (Int×List Int):=(.one (.agg (.cons (.k (.i .i64)) (.one (.k (.list (.i .i64)))))))
def CR (d:Int×List Int):Prop:=d.2.length<=1000
def Hw (d:Int×List Int):SV:=.agg [.val (.i .i64) d.1,.lst 0]
def H3 (d:Int×List Int):List OB:=[.lst 3 (.i .i64) d.2 false]
def UX:CSp:=Y9 T1 CR Hw H3
def Uc (hk:Int) (lw:List Int):Prop :=
 (lw.length<=1000)/\(false=true->lw=[])/\((hk=hk/\True/\(([]:List SV)=[]))/\((lw=lw/\false=false)/\True))
def T8:Cx:=⟨[],[(21,Nc)],9,[],0,[],[],[],[],false,[],[],[],[]⟩
def F9 (hk:Int) (lw:List Int):List (Nat×LoopAnn):=[]
theorem Fj (d:Int×List Int):gwp (T8) (F9 d.1 d.2) c25 0 (Yh [.cell 2 true 2] (Hw d) (H3 d)) (Qo 9 (AL.can T1 d))=Uc d.1 d.2:=by kernel_rfl
abbrev FD:Prop:=OkC Tryz.prog 25 UX
theorem Ff (h:∀ (hk:Int) (lw:List Int),(lw.length<=1000)->Uc hk lw):OkC Tryz.prog 25 UX :=
 Qu Z8l mixed (C:=T8) (V:=λ(d:Int×List Int)=>Uc d.1 d.2) ⟨(.cons PU .nil),XsOk.nil,ItsOk.nil,YlOk.nil,IysOk.nil,XfOk.nil⟩ (Fj) λd hp=>h d.1 d.2 hp
theorem PN:FD:=Ff λhk lw h=>by simp[Uc,h]
def Vz:AL (Int×List Int×List Int×List Int):=(.one (.agg (.cons (.k (.i .u8)) (.cons (.k (.list (.i .u8))) (.cons (.k (.list (.i .u16))) (.one (.k (.list (.i .u8)))))))))
def D5 (d:Int×List Int×List Int×List Int):Prop:=bOk d.1 d.2.1 d.2.2.1 d.2.2.2
def V4 (d:Int×List Int×List Int×List Int):SV:=.agg [.val (.i .i64) (hkN 12 d.1),.lst 0]
def KT (d:Int×List Int×List Int×List Int):List OB:=[.lst 3 (.i .i64) (Qv (hkN 12 d.1) 30 d.2.1) false]
def YV:CSp:=Y9 Vz D5 V4 KT
def XH (h8:Int) (ws:List Int) (rs:List Int) (ds:List Int):Prop :=
 (I64 h8)/\((12:Int)≠0)/\(I64 ((1:Int)+(Int.tmod h8 (12:Int))))/\∃ (e4:Unit) (d40:(List Int)×Int),((True/\True/\True/\(0:Int)=d40.2/\True)/\((h8=h8/\ws=ws/\rs=rs/\ds=ds/\(([]:List SV)=[]))/\((0:Int)=(0:Int)/\True/\(([]:List SV)=[]))/\(((1:Int)+(Int.tmod h8 (12:Int)))=((1:Int)+(Int.tmod h8 (12:Int)))/\True/\(([]:List SV)=[]))/\(d40.1=[]/\(List.isEmpty d40.1)=true)/\True)) /\
 LoopP (λ(d4:(List Int)×Int) (q4:((List Int)×Int)->Prop) =>
  (((d4.2==(0:Int))||((decide (d4.2<(lI ws)))&&(decide (d4.2<(30:Int)))))=true ->
   ((decide (d4.2<(lI ws)))=true ->
    (0<=d4.2)/\(d4.2<(List.length ws))/\(I64 (gD ws d4.2 0))/\(((1:Int)+(Int.tmod h8 (12:Int)))≠0)/\(((List.length d4.1)+(List.length [(Int.tmod (gD ws d4.2 0) ((1:Int)+(Int.tmod h8 (12:Int))))]))*8<=70368744177664)/\(I64 (d4.2+(1:Int)))/\(∃ d5:(List Int)×Int,((True/\True/\True/\(d4.2+(1:Int))=d5.2/\True)/\((h8=h8/\ws=ws/\rs=rs/\ds=ds/\(([]:List SV)=[]))/\((0:Int)=(0:Int)/\True/\(([]:List SV)=[]))/\(((1:Int)+(Int.tmod h8 (12:Int)))=((1:Int)+(Int.tmod h8 (12:Int)))/\True/\(([]:List SV)=[]))/\((d4.1++[(Int.tmod (gD ws d4.2 0) ((1:Int)+(Int.tmod h8 (12:Int))))])=d5.1/\false=(List.isEmpty d5.1))/\True))/\q4 d5)) /\
   ((decide (d4.2<(lI ws)))=false ->
    (((List.length d4.1)+(List.length [(0:Int)]))*8<=70368744177664)/\(I64 (d4.2+(1:Int)))/\(∃ d6:(List Int)×Int,((True/\True/\True/\(d4.2+(1:Int))=d6.2/\True)/\((h8=h8/\ws=ws/\rs=rs/\ds=ds/\(([]:List SV)=[]))/\((0:Int)=(0:Int)/\True/\(([]:List SV)=[]))/\(((1:Int)+(Int.tmod h8 (12:Int)))=((1:Int)+(Int.tmod h8 (12:Int)))/\True/\(([]:List SV)=[]))/\((d4.1++[(0:Int)])=d6.1/\false=(List.isEmpty d6.1))/\True))/\q4 d6))) /\
  (((d4.2==(0:Int))||((decide (d4.2<(lI ws)))&&(decide (d4.2<(30:Int)))))=false ->
   ((((1:Int)+(Int.tmod h8 (12:Int)))=(hkN 12 h8)/\True/\(([]:List SV)=[]))/\((d4.1=(Qv (hkN 12 h8) 30 ws)/\(List.isEmpty d4.1)=false)/\True)))) d40
def Vy:Cx:=⟨[(3,(.i .i64))],[],48,[],0,[],[],[],[],false,[],[],[],[]⟩
def DY (h8:Int) (ws:List Int) (rs:List Int) (ds:List Int):List (Nat×LoopAnn):=[(0,⟨Unit,(List Int)×Int,[1,2,3,4],λe x=>[.box 1 0,.box 2 0,.box 3 0,.val (.i .i64) x.2],λe x=>[(1,.slot 1,.cells [.val (.i .u8) h8,.val (.list (.i .u8)) ws,.val (.list (.i .u16)) rs,.val (.list (.i .u8)) ds] (some 25)),(2,.slot 2,.cells [.val (.i .i64) (0:Int),.nilS] (some 28)),(3,.slot 3,.cells [.val (.i .i64) ((1:Int)+(Int.tmod h8 (12:Int))),.lst 45] (some 28)),(45,.cell 3 1,.lst 3 (.i .i64) x.1 (List.isEmpty x.1))]⟩)]
theorem Bl (d:Int×List Int×List Int×List Int):gwp (Vy) (DY d.1 d.2.1 d.2.2.1 d.2.2.2) c17 0 (Yh [.cell 2 true 2] (V4 d) (KT d)) (Qo 48 (AL.can Vz d))=XH d.1 d.2.1 d.2.2.1 d.2.2.2:=by kernel_rfl
abbrev DZ:Prop:=OkC Tryz.prog 17 YV
theorem Bj (h:∀ (h8:Int) (ws:List Int) (rs:List Int) (ds:List Int),(bOk h8 ws rs ds)->XH h8 ws rs ds):OkC Tryz.prog 17 YV :=
 Qu Z8y mixed (C:=Vy) (V:=λ(d:Int×List Int×List Int×List Int)=>XH d.1 d.2.1 d.2.2.1 d.2.2.2) ⟨.nil,XsOk.nil,ItsOk.nil,YlOk.nil,IysOk.nil,XfOk.nil⟩ (Bl) λd hp=>h d.1 d.2.1 d.2.2.1 d.2.2.2 hp
theorem ED {m h8:Int}(hm:0<m) (h:0<=h8):1<=hkN m h8/\hkN m h8<=m:=by have h1:=Int.tmod_nonneg m h;have h2:=Int.tmod_lt_of_pos h8 hm;simp only[hkN];omega
theorem IT {hk:Int}{cap:Nat}{ws:List Int}:(Qv hk cap ws).length=if ws=[] then 1 else min cap ws.length:=by unfold Qv;split<;>simp
theorem Q7s {hk:Int}{cap:Nat}{ws:List Int}{i:Nat}(h:i<ws.length) (hc:i<cap):(Qv hk cap ws)[i]?=some (Int.tmod (ws.getD i 0) hk):=by
 have aJ:ws≠[]:=by rintro rfl;simp at h
 unfold Qv;rw[z0 aJ];simp[hc,h]
theorem Bd:DZ:=Bj λh8 ws rs ds h=>by
 obtain⟨h1,h2,pK,pL,hds⟩:=h;have hk:=ED (m:=12) (by omega) h1;have e:(1+Int.tmod h8 12)=hkN 12 h8:=rfl;have hk:1<=hkN 12 h8/\hkN 12 h8<=12:=hk;unfold XH;(try delta lI gD sT I64 Q1 pj8 pj4);simp only[true_and,and_true,exists_const,z6,zy,ne_eq,Qm,e];refine⟨by omega,by omega,by omega,([],0),⟨rfl,rfl,rfl⟩,?_⟩;have hN:(Qv (hkN 12 h8) 30 ws).length=if ws=[] then 1 else min 30 ws.length:=IT
 have ak:∀ k:Nat,(((k:Int)==0)||(decide ((k:Int)<ws.length)&&decide ((k:Int)<30)))=decide (k<(Qv (hkN 12 h8) 30 ws).length):=λk=>by
  rw[hN];by_cases hz:ws=[]
  .subst hz;cases k<;>simp;omega
  .have:0<ws.length:=x4.2 hz;rw[z0 hz];cases k with
   |zero=>simp;omega
   |succ k =>rw[Bool.eq_iff_iff];simp;omega
 have rI:(Qv (hkN 12 h8) 30 ws).length<=30:=by rw[hN];split<;>omega
 refine LoopP.count2 (Qv (hkN 12 h8) 30 ws).length (λk xs=>xs=(Qv (hkN 12 h8) 30 ws).take k) (by simp) λk xs hk hJ q hq=>?_;dsimp only;rw[ak];simp only[z6,zy,z7,Int.ofNat_lt];refine⟨λao=>⟨λhw=>?_,λhw=>?_⟩,λcA=>?_⟩
 .have hw:k<ws.length:=by omega
  have vD:=pK _ (zd hw);have rJ:k<30:=by omega
  simp only[Qf hw,zV];have hv:(Qv (hkN 12 h8) 30 ws)[k]=Int.tmod ws[k] (hkN 12 h8):=by have:=Q7s (hk:=hkN 12 h8) hw rJ;rw[Qf hw] at this;have h3:=z3 ao;exact osj (h3.symm.trans this)
  refine⟨by omega,by omega,by omega,by omega,by rw[hJ,xI];omega,by omega,(xs++[Int.tmod ws[k] (hkN 12 h8)],(k:Int)+1),⟨rfl,rfl,by simp⟩,hq _ ao ?_⟩;rw[QO ao,<-hJ,hv]
 .have hz:ws=[]:=by
   cases pK:ws with
   |nil=>rfl
   |cons a l =>
    exfalso;rw[hN] at ao;have:ws≠[]:=by rw[pK];simp
    rw[z0 this] at ao;omega
  have g9:k=0:=by rw[hN,z2 hz] at ao;omega
  subst g9;simp only[zV];refine⟨by rw[hJ,xI];omega,by omega,(xs++[0],1),⟨rfl,rfl,by simp⟩,hq _ ao ?_⟩;rw[QO ao,<-hJ];simp[Qv,hz]
 .have:k=(Qv (hkN 12 h8) 30 ws).length:=by omega
  subst this;rw[List.take_length] at hJ;subst hJ;refine⟨rfl,?_⟩;rw[List.isEmpty_eq_false_iff];intro hz;rw[hz] at hN;split at hN
  .cases hN
  .rename_i aJ;have:=x4.2 aJ;simp only[List.length_nil] at hN;omega
def Uf:AL (Int×List Int×List Int×List Int):=(.one (.agg (.cons (.k (.i .u8)) (.cons (.k (.list (.i .u8))) (.cons (.k (.list (.i .u16))) (.one (.k (.list (.i .u8)))))))))
def B6 (d:Int×List Int×List Int×List Int):Prop:=bOk d.1 d.2.1 d.2.2.1 d.2.2.2
def VD (d:Int×List Int×List Int×List Int):SV:=.agg [.val (.i .i64) (hkN 12 d.1),.lst 0]
def Vx (d:Int×List Int×List Int×List Int):List OB:=[.lst 3 (.i .i64) (ZJ (hkN 12 d.1) 10 d.2.2.1) false]
def Kb:CSp:=Y9 Uf B6 VD Vx
def W3 (h8:Int) (ws:List Int) (rs:List Int) (ds:List Int):Prop :=
 (I64 h8)/\((12:Int)≠0)/\(I64 ((1:Int)+(Int.tmod h8 (12:Int))))/\∃ (e4:Unit) (d40:(List Int)×Int),((True/\True/\True/\(0:Int)=d40.2/\True)/\((h8=h8/\ws=ws/\rs=rs/\ds=ds/\(([]:List SV)=[]))/\((0:Int)=(0:Int)/\True/\(([]:List SV)=[]))/\(((1:Int)+(Int.tmod h8 (12:Int)))=((1:Int)+(Int.tmod h8 (12:Int)))/\True/\(([]:List SV)=[]))/\(d40.1=[]/\(List.isEmpty d40.1)=true)/\True)) /\
 LoopP (λ(d4:(List Int)×Int) (q4:((List Int)×Int)->Prop) =>
  (((d4.2==(0:Int))||((decide (d4.2<(lI rs)))&&(decide (d4.2<(10:Int)))))=true ->
   ((decide (d4.2<(lI rs)))=true ->
    (0<=d4.2)/\(d4.2<(List.length rs))/\(I64 (gD rs d4.2 0))/\(InK .u64 ((1:Int)+(Int.tmod h8 (12:Int))))/\(0<=((1:Int)+(Int.tmod h8 (12:Int))))/\(I64 (Je .i64 (1:Int) ((1:Int)+(Int.tmod h8 (12:Int)))))/\(I64 ((Je .i64 (1:Int) ((1:Int)+(Int.tmod h8 (12:Int))))-(1:Int)))/\(((List.length d4.1)+(List.length [(Qa .and .i64 (gD rs d4.2 0) ((Je .i64 (1:Int) ((1:Int)+(Int.tmod h8 (12:Int))))-(1:Int)))]))*8<=70368744177664)/\(I64 (d4.2+(1:Int)))/\(∃ d5:(List Int)×Int,((True/\True/\True/\(d4.2+(1:Int))=d5.2/\True)/\((h8=h8/\ws=ws/\rs=rs/\ds=ds/\(([]:List SV)=[]))/\((0:Int)=(0:Int)/\True/\(([]:List SV)=[]))/\(((1:Int)+(Int.tmod h8 (12:Int)))=((1:Int)+(Int.tmod h8 (12:Int)))/\True/\(([]:List SV)=[]))/\((d4.1++[(Qa .and .i64 (gD rs d4.2 0) ((Je .i64 (1:Int) ((1:Int)+(Int.tmod h8 (12:Int))))-(1:Int)))])=d5.1/\false=(List.isEmpty d5.1))/\True))/\q4 d5)) /\
   ((decide (d4.2<(lI rs)))=false ->
    (InK .u64 ((1:Int)+(Int.tmod h8 (12:Int))))/\(0<=((1:Int)+(Int.tmod h8 (12:Int))))/\(I64 (Je .i64 (1:Int) ((1:Int)+(Int.tmod h8 (12:Int)))))/\(I64 ((Je .i64 (1:Int) ((1:Int)+(Int.tmod h8 (12:Int))))-(1:Int)))/\(((List.length d4.1)+(List.length [(Qa .and .i64 (21:Int) ((Je .i64 (1:Int) ((1:Int)+(Int.tmod h8 (12:Int))))-(1:Int)))]))*8<=70368744177664)/\(I64 (d4.2+(1:Int)))/\(∃ d6:(List Int)×Int,((True/\True/\True/\(d4.2+(1:Int))=d6.2/\True)/\((h8=h8/\ws=ws/\rs=rs/\ds=ds/\(([]:List SV)=[]))/\((0:Int)=(0:Int)/\True/\(([]:List SV)=[]))/\(((1:Int)+(Int.tmod h8 (12:Int)))=((1:Int)+(Int.tmod h8 (12:Int)))/\True/\(([]:List SV)=[]))/\((d4.1++[(Qa .and .i64 (21:Int) ((Je .i64 (1:Int) ((1:Int)+(Int.tmod h8 (12:Int))))-(1:Int)))])=d6.1/\false=(List.isEmpty d6.1))/\True))/\q4 d6))) /\
  (((d4.2==(0:Int))||((decide (d4.2<(lI rs)))&&(decide (d4.2<(10:Int)))))=false ->
   ((((1:Int)+(Int.tmod h8 (12:Int)))=(hkN 12 h8)/\True/\(([]:List SV)=[]))/\((d4.1=(ZJ (hkN 12 h8) 10 rs)/\(List.isEmpty d4.1)=false)/\True)))) d40
def Ux:Cx:=⟨[(3,(.i .i64))],[],51,[],0,[],[],[],[],false,[],[],[],[]⟩
def BV (h8:Int) (ws:List Int) (rs:List Int) (ds:List Int):List (Nat×LoopAnn):=[(0,⟨Unit,(List Int)×Int,[1,2,3,4],λe x=>[.box 1 0,.box 2 0,.box 3 0,.val (.i .i64) x.2],λe x=>[(1,.slot 1,.cells [.val (.i .u8) h8,.val (.list (.i .u8)) ws,.val (.list (.i .u16)) rs,.val (.list (.i .u8)) ds] (some 25)),(2,.slot 2,.cells [.val (.i .i64) (0:Int),.nilS] (some 30)),(3,.slot 3,.cells [.val (.i .i64) ((1:Int)+(Int.tmod h8 (12:Int))),.lst 48] (some 30)),(48,.cell 3 1,.lst 3 (.i .i64) x.1 (List.isEmpty x.1))]⟩)]
theorem Hj (d:Int×List Int×List Int×List Int):gwp (Ux) (BV d.1 d.2.1 d.2.2.1 d.2.2.2) c18 0 (Yh [.cell 2 true 2] (VD d) (Vx d)) (Qo 51 (AL.can Uf d))=W3 d.1 d.2.1 d.2.2.1 d.2.2.2:=by kernel_rfl
abbrev BU:Prop:=OkC Tryz.prog 18 Kb
theorem He (h:∀ (h8:Int) (ws:List Int) (rs:List Int) (ds:List Int),(bOk h8 ws rs ds)->W3 h8 ws rs ds):OkC Tryz.prog 18 Kb :=
 Qu Z76 mixed (C:=Ux) (V:=λ(d:Int×List Int×List Int×List Int)=>W3 d.1 d.2.1 d.2.2.1 d.2.2.2) ⟨.nil,XsOk.nil,ItsOk.nil,YlOk.nil,IysOk.nil,XfOk.nil⟩ (Hj) λd hp=>h d.1 d.2.1 d.2.2.1 d.2.2.2 hp
theorem Z31 {x h:Int}(h0:0<=x) (h1:x<9223372036854775808) (a:1<=h) (b:h<=24):Qa .and .i64 x (Je .i64 1 h-1)=x % 2 ^ h.toNat:=by
 obtain⟨n,rfl⟩:=zm h0;obtain⟨m,rfl⟩:=zm (show 0<=h by omega);have hp:=H9 a b;rw[Q3n (by omega) (by omega)];simp only[z7] at hp |-;have e2:((2:Int) ^ m)=((2 ^ m:Nat):Int):=by rw[Int.natCast_pow];rfl
 rw[e2] at hp |-;have e:(((2 ^ m:Nat):Int)-1)=((2 ^ m-1:Nat):Int):=by omega
 rw[e,Q5k (by omega) (by omega),Nat.and_two_pow_sub_one_eq_mod];rfl
theorem Q1w {hk:Int}{cap:Nat}{rs:List Int}:(ZJ hk cap rs).length=if rs=[] then 1 else min cap rs.length:=by unfold ZJ;split<;>simp
theorem Q8w {hk:Int}{cap:Nat}{rs:List Int}{i:Nat}(h:i<rs.length) (hc:i<cap):(ZJ hk cap rs)[i]?=some (rs.getD i 0 % 2 ^ hk.toNat):=by
 have aJ:rs≠[]:=by rintro rfl;simp at h
 unfold ZJ;rw[z0 aJ];simp[hc,h]
theorem BC:BU:=He λh8 ws rs ds h=>by
 obtain⟨h1,h2,pK,pL,hds⟩:=h;have hk:1<=hkN 12 h8/\hkN 12 h8<=12:=ED (m:=12) (by omega) h1;have e:(1+Int.tmod h8 12)=hkN 12 h8:=rfl;have hp:=H9 hk.1 (show hkN 12 h8<=24 by omega);have hs:=Q3n (show 0<=hkN 12 h8 by omega) (show hkN 12 h8<=62 by omega);have hm:∀ x,0<=x->x<9223372036854775808->Qa .and .i64 x (2 ^ (hkN 12 h8).toNat-1)=x % 2 ^ (hkN 12 h8).toNat:=λx a b=>by
  have:=Z31 a b hk.1 (show hkN 12 h8<=24 by omega)
  rwa [hs] at this
 have hu:InK .u64 (hkN 12 h8):=⟨by show (0:Int)<=_;omega,by show _<=(18446744073709551615:Int);omega⟩;unfold W3;(try delta lI gD sT I64 Q1 pj8 pj4);simp only[true_and,and_true,exists_const,z6,zy,ne_eq,Qm,e,hs,hu];refine⟨by omega,by omega,by omega,([],0),⟨rfl,rfl,rfl⟩,?_⟩;have hN:(ZJ (hkN 12 h8) 10 rs).length=if rs=[] then 1 else min 10 rs.length:=Q1w
 have ak:∀ k:Nat,(((k:Int)==0)||(decide ((k:Int)<rs.length)&&decide ((k:Int)<10)))=decide (k<(ZJ (hkN 12 h8) 10 rs).length):=λk=>by
  rw[hN];by_cases hz:rs=[]
  .subst hz;cases k<;>simp;omega
  .have:0<rs.length:=x4.2 hz;rw[z0 hz];cases k with
   |zero=>simp;omega
   |succ k =>rw[Bool.eq_iff_iff];simp;omega
 have rI:(ZJ (hkN 12 h8) 10 rs).length<=10:=by rw[hN];split<;>omega
 refine LoopP.count2 (ZJ (hkN 12 h8) 10 rs).length (λk xs=>xs=(ZJ (hkN 12 h8) 10 rs).take k) (by simp) λk xs mD hJ q hq=>?_;dsimp only;rw[ak];simp only[z6,zy,z7,Int.ofNat_lt];refine⟨λao=>⟨λhw=>?_,λhw=>?_⟩,λcA=>?_⟩
 .have hw:k<rs.length:=by omega
  have vE:=pL _ (zd hw);have rK:k<10:=by omega
  simp only[Qf hw,zV];have hv:(ZJ (hkN 12 h8) 10 rs)[k]=rs[k] % 2 ^ (hkN 12 h8).toNat:=by have:=Q8w (hk:=hkN 12 h8) hw rK;rw[Qf hw] at this;have h3:=z3 ao;exact osj (h3.symm.trans this)
  rw[hm _ (by omega) (by omega)];refine⟨by omega,by omega,by omega,by omega,by omega,by omega,by rw[hJ,xI];omega,by omega,(xs++[rs[k] % 2 ^ (hkN 12 h8).toNat],(k:Int)+1),⟨rfl,rfl,by simp⟩,hq _ ao ?_⟩;rw[QO ao,<-hJ,hv]
 .have hz:rs=[]:=by
   cases pL:rs with
   |nil=>rfl
   |cons a l =>
    exfalso;rw[hN] at ao;have:rs≠[]:=by rw[pL];simp
    rw[z0 this] at ao;omega
  have g9:k=0:=by rw[hN,z2 hz] at ao;omega
  subst g9;simp only[zV];rw[hm _ (by omega) (by omega)];refine⟨by omega,by omega,by omega,by rw[hJ,xI];omega,by omega,(xs++[21 % 2 ^ (hkN 12 h8).toNat],1),⟨rfl,rfl,by simp⟩,hq _ ao ?_⟩;rw[QO ao,<-hJ];simp[ZJ,hz]
 .have:k=(ZJ (hkN 12 h8) 10 rs).length:=by omega
  subst this;rw[List.take_length] at hJ;subst hJ;refine⟨rfl,?_⟩;rw[List.isEmpty_eq_false_iff];intro hz;rw[hz] at hN;split at hN
  .cases hN
  .rename_i aJ;have:=x4.2 aJ;simp only[List.length_nil] at hN;omega
def NI:AL (Int×List Int×List Int×List Int):=(.one (.agg (.cons (.k (.i .u8)) (.cons (.k (.list (.i .u8))) (.cons (.k (.list (.i .u16))) (.one (.k (.list (.i .u8)))))))))
def Ph (d:Int×List Int×List Int×List Int):Prop:=bOk d.1 d.2.1 d.2.2.1 d.2.2.2
def US (d:Int×List Int×List Int×List Int):SV:=.agg [.val (.i .i64) (hkN 12 d.1),.lst 0,.val (.i .i64) (hkN 12 d.1),.lst 1]
def UQ (d:Int×List Int×List Int×List Int):List OB:=[.lst 3 (.i .i64) (Qv (hkN 12 d.1) 30 d.2.1) false,.lst 3 (.i .i64) (ZJ (hkN 12 d.1) 10 d.2.2.1) false]
def Vh:CSp:=Y9 NI Ph US UQ
def W_ (h8:Int) (ws:List Int) (rs:List Int) (ds:List Int):Prop :=
 (bOk h8 ws rs ds)/\(false=true->(Qv (hkN 12 h8) 30 ws)=[])/\(bOk h8 ws rs ds)/\(((hkN 12 h8)=(hkN 12 h8)/\True/\(hkN 12 h8)=(hkN 12 h8)/\True/\(([]:List SV)=[]))/\(((Qv (hkN 12 h8) 30 ws)=(Qv (hkN 12 h8) 30 ws)/\false=false)/\((ZJ (hkN 12 h8) 10 rs)=(ZJ (hkN 12 h8) 10 rs)/\false=false)/\True))
def Nu:Cx:=⟨[],[(17,YV),(18,Kb)],8,[],0,[],[],[],[],false,[],[],[],[]⟩
def TP (h8:Int) (ws:List Int) (rs:List Int) (ds:List Int):List (Nat×LoopAnn):=[]
theorem TQ (d:Int×List Int×List Int×List Int):gwp (Nu) (TP d.1 d.2.1 d.2.2.1 d.2.2.2) c4 0 (Yh [.cell 2 true 4] (US d) (UQ d)) (Qo 8 (AL.can NI d))=W_ d.1 d.2.1 d.2.2.1 d.2.2.2:=by kernel_rfl
abbrev Tv:Prop:=OkC Tryz.prog 4 Vh
theorem TD (h:∀ (h8:Int) (ws:List Int) (rs:List Int) (ds:List Int),(bOk h8 ws rs ds)->W_ h8 ws rs ds):OkC Tryz.prog 4 Vh :=
 Qu J2t mixed (C:=Nu) (V:=λ(d:Int×List Int×List Int×List Int)=>W_ d.1 d.2.1 d.2.2.1 d.2.2.2) ⟨(.cons Bd (.cons BC .nil)),XsOk.nil,ItsOk.nil,YlOk.nil,IysOk.nil,XfOk.nil⟩ (TQ) λd hp=>h d.1 d.2.1 d.2.2.1 d.2.2.2 hp
theorem Tu:Tv:=TD λh8 ws rs ds h=>by unfold W_;(try delta lI gD sT I64 Q1 pj8 pj4);refine⟨h,(λh=>by cases h),h,?_⟩;and_intros<;>first|rfl|trivial
def PH:AL (Int×List Int×Int×List Int):=(.one (.agg (.cons (.k (.i .i64)) (.cons (.k (.list (.i .i64))) (.cons (.k (.i .i64)) (.one (.k (.list (.i .i64)))))))))
def EU (d:Int×List Int×Int×List Int):Prop:=d.2.1.length<=1000/\d.2.2.2.length<=1000
def HE (d:Int×List Int×Int×List Int):SV:=.agg [.val (.i .i64) d.1,.lst 0,.val (.i .i64) d.2.2.1,.lst 1]
def HJ (d:Int×List Int×Int×List Int):List OB:=[.lst 3 (.i .i64) d.2.1 false,.lst 3 (.i .i64) d.2.2.2 false]
def GX:CSp:=Y9 PH EU HE HJ
def U7 (hk:Int) (lw:List Int) (hd:Int) (rows:List Int):Prop :=
 (lw.length<=1000)/\(false=true->lw=[])/\(rows.length<=1000)/\((hk=hk/\True/\hd=hd/\True/\(([]:List SV)=[]))/\((lw=lw/\false=false)/\(rows=rows/\false=false)/\True))
def T5:Cx:=⟨[],[(25,UX),(6,Md)],10,[],0,[],[],[],[],false,[],[],[],[]⟩
def Fu (hk:Int) (lw:List Int) (hd:Int) (rows:List Int):List (Nat×LoopAnn):=[]
theorem FA (d:Int×List Int×Int×List Int):gwp (T5) (Fu d.1 d.2.1 d.2.2.1 d.2.2.2) c10 0 (Yh [.cell 2 true 4] (HE d) (HJ d)) (Qo 10 (AL.can PH d))=U7 d.1 d.2.1 d.2.2.1 d.2.2.2:=by kernel_rfl
abbrev FM:Prop:=OkC Tryz.prog 10 GX
theorem FL (h:∀ (hk:Int) (lw:List Int) (hd:Int) (rows:List Int),(lw.length<=1000/\rows.length<=1000)->U7 hk lw hd rows):OkC Tryz.prog 10 GX :=
 Qu Z8u mixed (C:=T5) (V:=λ(d:Int×List Int×Int×List Int)=>U7 d.1 d.2.1 d.2.2.1 d.2.2.2) ⟨(.cons PN (.cons R8 .nil)),XsOk.nil,ItsOk.nil,YlOk.nil,IysOk.nil,XfOk.nil⟩ (FA) λd hp=>h d.1 d.2.1 d.2.2.1 d.2.2.2 hp
theorem Fh:FM:=FL λhk lw hd rows h=>by unfold U7;(try delta lI gD sT I64 Q1 pj8 pj4);refine⟨h.1,(λh=>by cases h),h.2,?_⟩;and_intros<;>first|rfl|trivial
def P_:AL (List Int×Int):=(.cons (.k (.list (.i .u8))) (.one (.k (.i .i64))))
def CE (d:List Int×Int):Prop:=d.1.length<=9223372036854775807/\0<=d.2/\∀ x∈d.1,0<=x/\x<=255
def HN (d:List Int×Int):SV:=.val (.i .i64) (Et d.1 d.2)
def H8 (d:List Int×Int):List OB:=[]
def GU:CSp:=Y9 P_ CE HN H8
def U2 (l:List Int) (i:Int):Prop :=
 (((lI l)==(0:Int))=true ->
  ((0:Int)=(Et l i)/\(True))) /\
 (((lI l)==(0:Int))=false ->
  ((lI l)≠0)/\(0<=(Int.tmod i (lI l)))/\((Int.tmod i (lI l))<(List.length l))/\(I64 (gD l (Int.tmod i (lI l)) 0))/\((gD l (Int.tmod i (lI l)) 0)=(Et l i)/\(True)))
def Pk:Cx:=⟨[],[],16,[],0,[],[],[],[],false,[],[],[],[]⟩
def I8 (l:List Int) (i:Int):List (Nat×LoopAnn):=[]
theorem Fo (d:List Int×Int):gwp (Pk) (I8 d.1 d.2) c13 0 (Yh [.tmp 4] (HN d) (H8 d)) (Qo 16 (AL.can P_ d))=U2 d.1 d.2:=by kernel_rfl
abbrev Il:Prop:=OkC Tryz.prog 13 GU
theorem Fi (h:∀ (l:List Int) (i:Int),(l.length<=9223372036854775807/\0<=i/\∀ x∈l,0<=x/\x<=255)->U2 l i):OkC Tryz.prog 13 GU :=
 Qu Z97 mixed (C:=Pk) (V:=λ(d:List Int×Int)=>U2 d.1 d.2) ⟨.nil,XsOk.nil,ItsOk.nil,YlOk.nil,IysOk.nil,XfOk.nil⟩ (Fo) λd hp=>h d.1 d.2 hp
theorem FQ:Il:=Fi λl i h=>by
 obtain⟨h1,h2,h3⟩:=h;unfold U2;(try delta lI gD sT I64 Q1 pj8 pj4);refine⟨λhx=>?_,λhx=>?_⟩
 .have:l.length=0:=by have:=eq_of_beq hx;omega
  unfold Et;rw[z2 this];exact(by and_intros<;>first|rfl|trivial|simp)
 .have h0:l.length≠0:=by have:=ne_of_beq_false hx;omega
  have e:=Int.tmod_eq_emod_of_nonneg (b:=(l.length:Int)) h2;have g1:=Int.emod_nonneg i (show (l.length:Int)≠0 by omega);have g2:=Int.emod_lt_of_pos i (show (0:Int)<l.length by omega);have g3:(Int.tmod i l.length).toNat<l.length:=by omega
  have g4:=h3 _ (by rw[Qf g3];exact zd g3:l.getD (Int.tmod i l.length).toNat 0∈l);refine⟨by omega,by omega,by omega,by rw[Qm];omega,?_⟩;unfold Et;rw[z0 h0];exact(by and_intros<;>first|rfl|trivial|simp)
def T4:AL (Int×List (Int×Int×Bool)):=(.one (.agg (.cons (.k (.i .i64)) (.one (.k (.list (.pair (.i .i64) (.pair (.i .i64) .bo))))))))
def EN (d:Int×List (Int×Int×Bool)):Prop:=d.2.length<=1000
def Hv (d:Int×List (Int×Int×Bool)):SV:=.agg [.val (.i .i64) d.1,.lst 0]
def BY (d:Int×List (Int×Int×Bool)):List OB:=[.lst 46 (.pair (.i .i64) (.pair (.i .i64) .bo)) d.2 false]
def Nj:CSp:=Y9 T4 EN Hv BY
def U6 (hk:Int) (cs:List (Int×Int×Bool)):Prop :=
 (((List.length ([]:List (Int×Int×Bool)))+(List.length cs))*24<=70368744177664)/\((hk=hk/\True/\(([]:List SV)=[]))/\(((([]:List (Int×Int×Bool))++cs)=cs/\((List.isEmpty cs)&&false)=false)/\True))
def Pq:Cx:=⟨[(46,(.pair (.i .i64) (.pair (.i .i64) .bo)))],[],10,[],0,[],[],[],[],false,[],[],[],[]⟩
def Ie (hk:Int) (cs:List (Int×Int×Bool)):List (Nat×LoopAnn):=[]
theorem I6 (d:Int×List (Int×Int×Bool)):gwp (Pq) (Ie d.1 d.2) c7 0 (Yh [.cell 2 true 2] (Hv d) (BY d)) (Qo 10 (AL.can T4 d))=U6 d.1 d.2:=by kernel_rfl
abbrev Ig:Prop:=OkC Tryz.prog 7 Nj
theorem F3 (h:∀ (hk:Int) (cs:List (Int×Int×Bool)),(cs.length<=1000)->U6 hk cs):OkC Tryz.prog 7 Nj :=
 Qu J28 mixed (C:=Pq) (V:=λ(d:Int×List (Int×Int×Bool))=>U6 d.1 d.2) ⟨.nil,XsOk.nil,ItsOk.nil,YlOk.nil,IysOk.nil,XfOk.nil⟩ (I6) λd hp=>h d.1 d.2 hp
theorem Pz:Ig:=F3 λhk cs h=>by
 (unfold U6;(try delta lI gD sT I64 Q1 pj8 pj4);simp);omega
def BA:AL (Int×Int):=(.cons (.k (.i .i64)) (.one (.k (.i .i64))))
def LN (d:Int×Int):Prop:=0<=d.1/\0<=d.2/\d.1<=100/\d.2<=100
def DQ (d:Int×Int):SV:=.lst 0
def DA (d:Int×Int):List OB:=[.lst 3 (.i .i64) (List.replicate (d.1*d.2).toNat (1:Int)) false]
def MJ:CSp:=Y9 BA LN DQ DA
def KY (n:Int) (r:Int):Prop :=
 ∃ (e2:Unit) (d20:(List Int)×Int),((n=n/\r=r/\True/\(0:Int)=d20.2/\True)/\((([]:List Int)=d20.1/\false=false)/\True)) /\
 LoopP (λ(d2:(List Int)×Int) (q2:((List Int)×Int)->Prop) =>
  (I64 (n*r))/\((decide (d2.2<(n*r)))=true ->
   (((List.length d2.1)+(List.length [(1:Int)]))*8<=70368744177664)/\(I64 (d2.2+(1:Int)))/\(∃ d3:(List Int)×Int,((n=n/\r=r/\True/\(d2.2+(1:Int))=d3.2/\True)/\(((d2.1++[(1:Int)])=d3.1/\false=false)/\True))/\q2 d3)) /\
  ((decide (d2.2<(n*r)))=false ->
   (True/\((d2.1=(List.replicate (n*r).toNat (1:Int))/\false=false)/\True)))) d20
def Hi:Cx:=⟨[(3,(.i .i64))],[],19,[],0,[],[],[],[],false,[],[],[],[]⟩
def EA (n:Int) (r:Int):List (Nat×LoopAnn):=[(0,⟨Unit,(List Int)×Int,[0,1,5,6],λe x=>[.val (.i .i64) n,.val (.i .i64) r,.lst 7,.val (.i .i64) x.2],λe x=>[(7,.slot 5,.lst 3 (.i .i64) x.1 false)]⟩)]
theorem Ae (d:Int×Int):gwp (Hi) (EA d.1 d.2) c23 0 (Yh [.tmp 4] (DQ d) (DA d)) (Qo 19 (AL.can BA d))=KY d.1 d.2:=by kernel_rfl
abbrev AW:Prop:=OkC Tryz.prog 23 MJ
theorem EH (h:∀ (n:Int) (r:Int),(0<=n/\0<=r/\n<=100/\r<=100)->KY n r):OkC Tryz.prog 23 MJ :=
 Qu Z81 mixed (C:=Hi) (V:=λ(d:Int×Int)=>KY d.1 d.2) ⟨.nil,XsOk.nil,ItsOk.nil,YlOk.nil,IysOk.nil,XfOk.nil⟩ (Ae) λd hp=>h d.1 d.2 hp
theorem Em:AW:=EH λn r h=>by
 obtain⟨h1,h2,h3,h4⟩:=h;unfold KY;(try delta lI gD sT I64 Q1 pj8 pj4);have hm:0<=n*r/\n*r<=10000:=⟨Int.mul_nonneg h1 h2,by have:=Int.mul_le_mul h3 h4 h2 (by omega:(0:Int)<=100);omega⟩;generalize n*r=m at hm |-;obtain⟨m,rfl⟩:=zm hm.1;refine⟨(),([],0),(by and_intros<;>first|rfl|trivial|simp),?_⟩;refine LoopP.count2 m (λk xs=>xs=List.replicate k (1:Int)) rfl λk xs hk hJ q hq=>?_;subst hJ;dsimp only;refine⟨by rw[Qm];omega,λc=>?_,λc=>?_⟩
 .have ao:k<m:=by simpa using c
  refine⟨by simp;omega,by rw[Qm];omega,(List.replicate (k+1) (1:Int),(k:Int)+1),?_,hq _ ao rfl⟩;and_intros<;>first|rfl|trivial|simp[List.replicate_succ']
 .have aB:k=m:=by simp at c;omega
  subst aB;rw[z7];and_intros<;>first|rfl|trivial|simp
def Pj:AL (List (List UInt8)×List (List UInt8)):=(.cons (.k (.list .st)) (.one (.k (.list .st))))
def AK (d:List (List UInt8)×List (List UInt8)):Prop:=d.1.length<=1000000
def HB (d:List (List UInt8)×List (List UInt8)):SV:=.val .bo (d.1==d.2)
def H4 (d:List (List UInt8)×List (List UInt8)):List OB:=[]
def D9:CSp:=Y9 Pj AK HB H4
def U0 (a:List (List UInt8)) (b:List (List UInt8)):Prop :=
 (((lI a) != (lI b))=true ->
  (false=(a==b)/\(True))) /\
 (((lI a) != (lI b))=false ->
  ∃ (e2:Unit) (d20:Int),((a=a/\b=b/\(0:Int)=d20/\True)/\(True)) /\
  LoopP (λ(d2:Int) (q2:(Int)->Prop) =>
   ((decide (d2<(lI a)))=true ->
    (0<=d2)/\(d2<(List.length a))/\(0<=d2)/\(d2<(List.length b))/\((!((gD a d2 [])==(gD b d2 [])))=true ->
     (false=(a==b)/\(True))) /\
    ((!((gD a d2 [])==(gD b d2 [])))=false ->
     (I64 (d2+(1:Int)))/\(∃ d3:Int,((a=a/\b=b/\(d2+(1:Int))=d3/\True)/\(True))/\q2 d3))) /\
   ((decide (d2<(lI a)))=false ->
    (true=(a==b)/\(True)))) d20)
def Po:Cx:=⟨[],[],26,[],0,[],[],[],[],false,[],[],[],[]⟩
def FK (a:List (List UInt8)) (b:List (List UInt8)):List (Nat×LoopAnn):=[(0,⟨Unit,Int,[0,1,5],λe x=>[.val (.list .st) a,.val (.list .st) b,.val (.i .i64) x],λe x=>[]⟩)]
theorem Fg (d:List (List UInt8)×List (List UInt8)):gwp (Po) (FK d.1 d.2) c12 0 (Yh [.tmp 4] (HB d) (H4 d)) (Qo 26 (AL.can Pj d))=U0 d.1 d.2:=by kernel_rfl
abbrev Fa:Prop:=OkC Tryz.prog 12 D9
theorem I2 (h:∀ (a:List (List UInt8)) (b:List (List UInt8)),(a.length<=1000000)->U0 a b):OkC Tryz.prog 12 D9 :=
 Qu Z93 mixed (C:=Po) (V:=λ(d:List (List UInt8)×List (List UInt8))=>U0 d.1 d.2) ⟨.nil,XsOk.nil,ItsOk.nil,YlOk.nil,IysOk.nil,XfOk.nil⟩ (Fg) λd hp=>h d.1 d.2 hp
theorem EZ:Fa:=I2 λa b h=>by
 unfold U0;(try delta lI gD sT I64 Q1 pj8 pj4);simp only[true_and,and_true,exists_eq_left',exists_const,z6,zy,zH,bne_iff_ne,ne_eq,zW,bne_eq_false_iff_eq,Bool.not_eq_true',xg];refine⟨λh=>?_,λh=>?_⟩
 .symm;rw[zW];rintro rfl;exact h rfl
 have h:a.length=b.length:=by omega
 refine LoopP.count a.length (λk=>a.take k=b.take k) rfl λk bz hJ q hq=>?_;simp only[z7,Int.ofNat_lt,Qm];refine⟨λao=>?_,λcA=>?_⟩
 .have ao:k<a.length:=by omega
  rw[Qf ao,Qf (by omega)];refine⟨by omega,by omega,by omega,by omega,λhx=>?_,λhx=>⟨by omega,hq ao ?_⟩⟩
  .symm;rw[zW];rintro rfl;exact hx rfl
  .rw[QO ao,QO (by omega),hJ,hx]
 .rw[zP (by omega),zP (by omega)] at hJ;simp[hJ]
def Bs:AL ((Int×List (Int×Int×Bool))×Int×List Int):=(.cons (.agg (.cons (.k (.i .i64)) (.one (.k (.list (.pair (.i .i64) (.pair (.i .i64) .bo))))))) (.one (.agg (.cons (.k (.i .i64)) (.one (.k (.list (.i .i64))))))))
def Cb (d:(Int×List (Int×Int×Bool))×Int×List Int):Prop:=d.1.2.length<=60/\d.2.2.length<=110
def DD (d:(Int×List (Int×Int×Bool))×Int×List Int):SV:=.tup [.lst 0,.val .bo (acB d.1.1 d.1.2 d.2.1 d.2.2)]
def DM (d:(Int×List (Int×Int×Bool))×Int×List Int):List OB:=[.lst 9 .st (acC d.1.1 d.1.2 d.2.1 d.2.2) ((acC d.1.1 d.1.2 d.2.1 d.2.2).isEmpty)]
def MO:CSp:=Y9 Bs Cb DD DM
def Vi (hb:Int) (cs:List (Int×Int×Bool)) (hk:Int) (lw:List Int):Prop :=
 (cs.length<=1000)/\(false=true->cs=[])/\(0<=(lI cs)/\0<=(1:Int)/\(lI cs)<=100/\(1:Int)<=100)/\(cs.length<=1000/\(List.replicate ((lI cs)*(1:Int)).toNat (1:Int)).length<=1000)/\(((XS hb cs (0:Int) (List.replicate ((lI cs)*(1:Int)).toNat (1:Int))) != (0:Int))=true ->
  ((True/\false=(acB hb cs hk lw)/\(([]:List SV)=[]))/\(((acC hb cs hk lw)=[]/\(acC hb cs hk lw).isEmpty=true)/\True))) /\
 (((XS hb cs (0:Int) (List.replicate ((lI cs)*(1:Int)).toNat (1:Int))) != (0:Int))=false ->
  (lw.length<=1000)/\(false=true->lw=[])/\(lw.length<=110/\(Si hb cs (0:Int) (List.replicate ((lI cs)*(1:Int)).toNat (1:Int))).length<=110)/\((True/\(Q7 hk lw hk (Si hb cs (0:Int) (List.replicate ((lI cs)*(1:Int)).toNat (1:Int)))==(0:Int))=(acB hb cs hk lw)/\(([]:List SV)=[]))/\(((ZV hk lw hk (Si hb cs (0:Int) (List.replicate ((lI cs)*(1:Int)).toNat (1:Int))))=(acC hb cs hk lw)/\(ZV hk lw hk (Si hb cs (0:Int) (List.replicate ((lI cs)*(1:Int)).toNat (1:Int)))).isEmpty=(acC hb cs hk lw).isEmpty)/\True)))
def HA:Cx:=⟨[],[(7,Nj),(23,MJ),(22,D8),(25,UX),(24,NS)],37,[],0,[],[],[],[],false,[],[],[],[]⟩
def CP (hb:Int) (cs:List (Int×Int×Bool)) (hk:Int) (lw:List Int):List (Nat×LoopAnn):=[]
theorem Al (d:(Int×List (Int×Int×Bool))×Int×List Int):gwp (HA) (CP d.1.1 d.1.2 d.2.1 d.2.2) c8 0 (Yh [.tmp 4,.tmp 5] (DD d) (DM d)) (Qo 37 (AL.can Bs d))=Vi d.1.1 d.1.2 d.2.1 d.2.2:=by kernel_rfl
abbrev AQ:Prop:=OkC Tryz.prog 8 MO
theorem Ef (h:∀ (hb:Int) (cs:List (Int×Int×Bool)) (hk:Int) (lw:List Int),(cs.length<=60/\lw.length<=110)->Vi hb cs hk lw):OkC Tryz.prog 8 MO :=
 Qu J2g mixed (C:=HA) (V:=λ(d:(Int×List (Int×Int×Bool))×Int×List Int)=>Vi d.1.1 d.1.2 d.2.1 d.2.2) ⟨(.cons Pz (.cons Em (.cons I9 (.cons PN (.cons Hm .nil))))),XsOk.nil,ItsOk.nil,YlOk.nil,IysOk.nil,XfOk.nil⟩ (Al) λd hp=>h d.1.1 d.1.2 d.2.1 d.2.2 hp
theorem A0:AQ:=Ef λhb cs hk lw h=>by
 obtain⟨h1,h2⟩:=h;unfold Vi;(try delta lI gD sT I64 Q1 pj8 pj4);have e:((cs.length:Int)*1).toNat=cs.length:=by omega
 rw[e];have vF:(Si hb cs 0 (List.replicate cs.length 1)).length<=110:=by
  unfold Si;split
  .rw[Am];simp;omega
  .simp
 refine⟨by omega,(λh=>by cases h),⟨by omega,by omega,by omega,by omega⟩,⟨by omega,by simp;omega⟩,λh3=>?_,λh3=>⟨by omega,(λh=>by cases h),⟨by omega,vF⟩,?_⟩⟩
 .have h3:XS hb cs 0 (List.replicate cs.length 1)≠0:=by simpa using h3
  have e1:acB hb cs hk lw=false:=by unfold acB acE;simp[h3]
  have e2:acC hb cs hk lw=[]:=by unfold acC acE;rw[z0 h3]
  rw[e1,e2];exact(by and_intros<;>first|rfl|trivial|simp)
 .have h3:XS hb cs 0 (List.replicate cs.length 1)=0:=by simpa using h3
  have e1:acB hb cs hk lw=(Q7 hk lw hk (Si hb cs 0 (List.replicate cs.length 1))==0):=by unfold acB acE acR;rw[h3];rfl
  have e2:acC hb cs hk lw=ZV hk lw hk (Si hb cs 0 (List.replicate cs.length 1)):=by unfold acC acE;rw[z2 h3];rfl
  rw[e1,e2];exact(by and_intros<;>first|rfl|trivial|simp)
theorem O8 {rows:List Int}{i:Nat}(h:i<rows.length):(Hq rows).getD i Gz=((i:Int),(rows.getD i 0,false)):=by rw[Qf (by simpa [Hq] using h)];simp[Hq]
theorem Mw (rows:List Int):(Hq rows).length=rows.length:=by simp[Hq]
theorem Z5f {n:Nat}{k:Nat}(h:k<n):(List.replicate n (1:Int)).getD k 0=1:=by rw[Qf (by simpa using h)];simp
theorem Q6h {n m:Nat}(hn:0<n):∀ k,k<=m->k<n->atK n 0 (List.replicate m (1:Int)) k=(k:Int)
 |0,_,_=>rfl
 |k+1,hk,iO=>by have ih:=Q6h hn k (by omega) (by omega) (m:=m);unfold atK;rw[ih,Z5f (by omega),Int.tmod_eq_emod_of_nonneg (by omega),Int.emod_eq_of_lt (by omega) (by omega)];rfl
theorem AN {hk:Int}{rows:List Int}{L:List UK}(h1:1<=hk/\hk<=24) (hr:∀ x∈rows,0<=x/\x<2 ^ hk.toNat) (hl:L.length=rows.length) (h0:rows≠[]) (rL:rows.length<=60) (hb:∀ c∈L,0<=c.1/\c.1<rows.length/\c.2.1=rows.getD c.1.toNat 0):Wf hk L=0:=by
 unfold Wf;have i1:inI hk 1 24=true:=by unfold inI;rw[zG h1.1,zG h1.2];rfl
 rw[z0 (by rw[i1];decide),z0 (by omega),z0];rintro (h|h)
 .rw[h] at hl;exact h0 (x3.1 hl.symm)
 .obtain⟨c,hc,bN⟩:=xx.1 h;obtain⟨c1,c2,c3⟩:=hb c hc;have ao:c.1.toNat<rows.length:=by omega
  have h4:=hr (rows.getD c.1.toNat 0) (by rw[Qf ao];exact zd ao);rw[<-c3] at h4;have:Yl hk c=true:=by unfold Yl inI;rw[zG (by omega),zG (by omega),zG h4.1,zG (by omega)];rfl
  rw[this] at bN;cases bN
theorem Q4p {hk:Int}{rows:List Int}(h1:1<=hk/\hk<=24) (hr:∀ x∈rows,0<=x/\x<2 ^ hk.toNat) (h0:rows≠[]) (rL:rows.length<=60):KG hk rows=0:=by
 unfold KG;have i1:inI hk 1 24=true:=by unfold inI;rw[zG h1.1,zG h1.2];rfl
 rw[z0 (by rw[i1];decide),z0 (by omega),z0 h0,z0];rw[xx];rintro⟨x,hx,hb⟩;have:=hr x hx;rw[show inI x 0 (2 ^ hk.toNat-1)=true by unfold inI;rw[zG (by omega),zG (by omega)];rfl] at hb;cases hb
structure MarkI (rows:List Int) (L:List UK):Prop where
 len:L.length=rows.length
 val:∀ c∈L,0<=c.1/\c.1<rows.length/\c.2.1=rows.getD c.1.toNat 0
 nd:(L.map (·.1)).Nodup
theorem OT (rows:List Int):MarkI rows (Hq rows):=by
 refine⟨Mw rows,λc hc=>?_,?_⟩
 .obtain⟨i,hi,rfl⟩:=zC.1 hc;have:=zQ.1 hi;dsimp only;rw[z7];exact⟨by omega,by omega,rfl⟩
 .unfold Hq;rw[x_,List.nodup_iff_pairwise_ne,List.pairwise_map];refine (List.nodup_iff_pairwise_ne.1 List.nodup_range).imp λ{a b} h e=>h ?_;have:(a:Int)=(b:Int):=e;omega
theorem MarkI.perm {rows:List Int}{L M:List UK}(h:MarkI rows L) (hp:M.Perm L):MarkI rows M :=
 ⟨hp.length_eq.trans h.len,λc hc=>h.val c (hp.mem_iff.1 hc),(hp.map (·.1)).nodup_iff.2 h.nd⟩
theorem MarkI.set {rows:List Int}{L:List UK}(h:MarkI rows L) {k:Nat}(hk:k<L.length) (b:Bool):MarkI rows (L.set k ((L.getD k Gz).1,((L.getD k Gz).2.1,b))):=by
 refine⟨by rw[xl];exact h.len,λc hc=>?_,?_⟩
 .rcases List.mem_or_eq_of_mem_set hc with hc|rfl
  .exact h.val c hc
  .rw[Qf hk];exact h.val L[k] (zd hk)
 .have e:(L.set k ((L.getD k Gz).1,((L.getD k Gz).2.1,b))).map (·.1)=L.map (·.1):=by
   rw[List.map_set,Qf hk];refine List.ext_getElem (by simp) λi h1 h2=>?_;rw[List.getElem_set];split
   .rename_i h3;subst h3;simp
   .rfl
  rw[e];exact h.nd
theorem Q3j {hk:Int}{rows:List Int}{L:List UK}(h:MarkI rows L) (hb:Wf hk L=0):WE hk L=0:=by unfold WE;rw[z0 (by omega),z0,z2 h.nd];intro hm;obtain⟨c,hc,e⟩:=zC.1 hm;have:=(h.val c hc).1;omega
theorem Z1x {h8:Int}{ws rs ds:List Int}(h:bOk h8 ws rs ds):(1<=hkN 12 h8/\hkN 12 h8<=12)/\(Qv (hkN 12 h8) 30 ws≠[]/\(Qv (hkN 12 h8) 30 ws).length<=30/\∀ x∈Qv (hkN 12 h8) 30 ws,0<=x/\x<hkN 12 h8) /\
  (ZJ (hkN 12 h8) 10 rs≠[]/\(ZJ (hkN 12 h8) 10 rs).length<=10/\∀ x∈ZJ (hkN 12 h8) 10 rs,0<=x/\x<2 ^ (hkN 12 h8).toNat):=by
 obtain⟨h1,h2,h3,h4,h5⟩:=h;have hk:=ED (m:=12) (by omega) h1;refine⟨hk,⟨?_,?_,?_⟩,⟨?_,?_,?_⟩⟩
 .unfold Qv;split
  .simp
  .rename_i aJ;simpa using aJ
 .rw[IT];split<;>omega
 .intro x hx;unfold Qv at hx;split at hx
  .rw[zx.1 hx];omega
  .simp only[zC] at hx;obtain⟨y,hy,rfl⟩:=hx;have:=h3 y (List.mem_of_mem_take hy);exact⟨Int.tmod_nonneg _ this.1,Int.tmod_lt_of_pos _ (by omega)⟩
 .unfold ZJ;split
  .simp
  .rename_i aJ;simpa using aJ
 .rw[Q1w];split<;>omega
 .intro x hx;have hp:=H9 hk.1 (show hkN 12 h8<=24 by omega);unfold ZJ at hx;split at hx
  .rw[zx.1 hx];exact⟨Int.emod_nonneg _ (by omega),Int.emod_lt_of_pos _ (by omega)⟩
  .simp only[zC] at hx;obtain⟨y,_,rfl⟩:=hx;exact⟨Int.emod_nonneg _ (by omega),Int.emod_lt_of_pos _ (by omega)⟩
theorem Z4k {hk:Int}{lw:List Int}(h1:1<=hk) (h2:hk<=24) (h3:lw.length<=96) (h4:1<=lw.length) (h5:∀ x∈lw,0<=x/\x<hk):Wu hk lw=0:=by
 have e1:inI hk 1 24=true:=by simp[inI];omega
 have e2:(lw.any λx=>!inI x 0 (hk-1))=false:=by
  rw[xc];intro x hx;have:=h5 x hx;have e3:inI x 0 (hk-1)=true:=by unfold inI;simp only[z1,z6];omega
  rw[e3];simp
 unfold Wu;rw[z0 (by rw[e1];simp),z0 (by omega),z0 (by omega),z0 (by rw[e2];simp)]
theorem Z5e (n r:Nat):Q8h n r n=FW n r:=by
 have key:∀ k i,(Q8h n r k).testBit i=(decide (i<k)&&r.testBit (k-1-i)):=by
  intro k;induction k with
  |zero=>intro i;simp[Q8h]
  |succ k ih =>
   intro i;rw[Q8h];cases i with
   |zero =>
    rw[Nat.testBit_zero];by_cases h:r.testBit k=true
    .rw[z2 h];simp[h]
    .rw[z0 h];have:r.testBit k=false:=by simpa using h
     simp[this]
   |succ i =>rw[Nat.testBit_succ,show (Q8h n r k*2+(if r.testBit k then 1 else 0)) / 2=Q8h n r k by split<;>omega,ih];rw[show k-1-i=k+1-1-(i+1) by omega];congr 1;rw[decide_eq_decide];omega
 refine Nat.eq_of_testBit_eq λi=>?_;rw[key,Rf]
theorem Q2t {hk:Int}{cs:List UK}(hb:Wf hk cs=0) (h1:1<=cs.length) (rL:cs.length<=60):acE hk cs=0/\acR hk cs=cs.map (Dj hk):=by
 have we:XS hk cs 0 (List.replicate cs.length 1)=0:=by
  unfold XS;rw[z0 (by omega),z0,z0 (by simpa using rL),z0]
  .rw[xx];rintro⟨x,hx,hb⟩;rw[(List.mem_replicate.1 hx).2] at hb;cases hb
  .rw[show inI 0 0 ((cs.length:Int)-1)=true by unfold inI;rw[zG (by omega),zG (by omega)];rfl];decide
 refine⟨we,?_⟩;unfold acR Si;rw[z2 we,xM];refine List.ext_getElem (by rw[Am];simp) λi h2 h3=>?_;have h4:i<cs.length:=by simpa using h3
 simp only[Fe,xP,List.getElem_range];rw[Q6h (by omega) i (by omega) h4,z7,Qf h4]
def swD (k:Int) (p:Nat):Dmg:=(k,((p:Int),((0:Int),((0:Int),false))))
def swI (H:Int) (R:List Int) (p:Nat) (d:Int×List UK):Prop:=(d.1=3\/d.1=4)/\MarkI R d.2/\d.2.map (Dj H)=Pg H R (swD d.1 p)
theorem OJ (H:Int) (R:List Int):(Hq R).map (Dj H)=R:=by refine List.ext_getElem (by simp[Hq]) λi h1 h2=>?_;simp only[Hq,xP,List.getElem_range,Dj];rw[Qf h2];rfl
section
variable {H:Int}{W R:List Int}{p:Nat}
theorem Z5m (hp:p<R.length):swI H R p (3,(Hq R).set p (((Hq R).getD p (0,(0,false))).1,(((Hq R).getD p (0,(0,false))).2.1,true))):=by refine⟨.inl rfl,(OT R).set (by rw[Mw];exact hp) true,?_⟩;dsimp only;rw[List.map_set,OJ];have e:(Hq R).getD p (0,(0,false))=((p:Int),(R.getD p 0,false)):=O8 hp;rw[e];unfold Pg swD;rw[z0 (by omega),z0 (by omega),z2 rfl];dsimp only;rw[z7,Z5e];rfl
theorem Z41 (hp:p<R.length):swI H R p (4,((Hq R).set p ((Hq R).getD ((p+1) % R.length) (0,(0,false)))).set ((p+1) % R.length) ((Hq R).getD p (0,(0,false)))):=by have hq:(p+1) % R.length<R.length:=xm _ (by omega);refine⟨.inr rfl,(OT R).perm (Q7r (by rw[Mw];exact hp) (by rw[Mw];exact hq)),?_⟩;dsimp only;rw[List.map_set,List.map_set,OJ];have e:(Hq R).getD p (0,(0,false))=((p:Int),(R.getD p 0,false)):=O8 hp;have e2:(Hq R).getD ((p+1) % R.length) (0,(0,false))=((((p+1) % R.length:Nat):Int),(R.getD ((p+1) % R.length) 0,false)):=O8 hq;rw[e,e2];unfold Pg swD;rw[z0 (by omega),z0 (by omega),z0 (by omega),z2 rfl];dsimp only;rw[z7];rfl
theorem Q68 {k:Int}(hk:k=3\/k=4) (hp:p<R.length) (hH:1<=H) (hw:1<=W.length):P3 H R W (swD k p)=true:=by
 have h1:inI (p:Int) 0 ((R.length:Int)-1)=true:=by unfold inI;simp only[z1,z6];omega
 have h2:inI (0:Int) 0 (H-1)=true:=by unfold inI;simp only[z1,z6];omega
 have h3:inI (0:Int) 0 ((W.length:Int)-1)=true:=by unfold inI;simp only[z1,z6];omega
 rcases hk with rfl|rfl
 .unfold P3 swD;simp only[h1,h2,h3];rfl
 .unfold P3 swD;simp only[h1,h2,h3];rfl
theorem Z90 {k:Int}(hk:k=3\/k=4) (hp:p<R.length):swD k p∈dmA H R W:=by
 unfold dmA;simp only[xh];rcases hk with rfl|rfl
 .exact .inl (.inl (.inr (zC.2 ⟨p,zQ.2 hp,rfl⟩)))
 .exact .inl (.inr (zC.2 ⟨p,zQ.2 hp,rfl⟩))
theorem Z9h {k:Int}(hk:k=3\/k=4):Wy W H R [swD k p]=(Pg H R (swD k p)).map (Gp W):=by unfold Wy;refine x8 λr _=>?_;unfold EV swD;rw[z0 (by omega)]
theorem Q9w {ds:List Dmg}(he:JM H W H R ds (R.length:Int)=0):Cv H W H R ds (R.length:Int)=Wy W H R ds:=by obtain⟨h1,h2,_,_⟩:=Og he;obtain⟨k1,_⟩:=Lt h1 h2;unfold Cv;rw[z2 he];unfold J0g;rw[z7];refine List.ext_getElem (by simp[k1]) λi h3 h4=>?_;rw[xP,List.getElem_range,xJ h4,Qf h4]
theorem Z4z {d:Int×List UK}(h:swI H R p d) (ht:Q7 H W H R=0) (hp:p<R.length) :
  acB H d.2 H W=true/\acC H d.2 H W=Wy W H R [swD d.1 p]/\WE H d.2=0/\Gb H d.2=Hq R:=by
 obtain⟨h1,h2,h3⟩:=h;obtain⟨f0,_,f2,f3,f4,f5,f6⟩:=U8 ht;have aJ:R≠[]:=by rintro rfl;simp at f4
 have hw:1<=W.length:=by have:=Dh f0;omega
 have mc:=AN ⟨f2,f3⟩ f6 h2.len aJ f5 h2.val;obtain⟨e1,e2⟩:=Q2t mc (by have:=h2.len;omega) (by have:=h2.len;omega);obtain⟨q1,_⟩:=Q4k ht (Q68 (k:=d.1) h1 hp f2 hw);rw[h3] at e2;have hn:=Q3j h2 mc;refine⟨?_,?_,hn,?_⟩
 .unfold acB;rw[e1,e2,q1];rfl
 .unfold acC;rw[z2 e1,e2,Z9h h1];unfold ZV;rw[z2 q1]
 .unfold Gb;rw[z2 hn];exact Q8r h2.len h2.nd h2.val
theorem Z2m (ht:Q7 H W H R=0):acB H (Hq R) H W=true/\acC H (Hq R) H W=Wy W H R []:=by
 obtain⟨f0,_,f2,f3,f4,f5,f6⟩:=U8 ht;have aJ:R≠[]:=by rintro rfl;simp at f4
 have mc:=AN ⟨f2,f3⟩ f6 (Mw R) aJ f5 (OT R).val;obtain⟨e1,e2⟩:=Q2t mc (by rw[Mw];omega) (by rw[Mw];omega);rw[OJ] at e2;refine⟨?_,?_⟩
 .unfold acB;rw[e1,e2,ht];rfl
 .unfold acC;rw[z2 e1,e2];unfold ZV;rw[z2 ht];rfl
def Z21 (C:List (List UInt8)) (n w:Nat) (ss:List Sgt):Prop:=∀ s∈ss,0<=s.1/\s.1<n/\0<=s.2.1/\s.2.1<w/\s.2.2=((C.getD s.1.toNat []).getD s.2.1.toNat 0==120)
theorem Q6k {ss:List Sgt}{C:List (List UInt8)}(ht:Q7 H W H R=0) (hl:ss.length<=60) (h:Z21 C R.length W.length ss):KA H W H R ss=0:=by obtain⟨_,_,_,_,_,f5,_⟩:=U8 ht;unfold KA;rw[z0 (by omega),z0 (by omega),z0];intro hx;obtain⟨s,hs,h3⟩:=xx.1 hx;obtain⟨g1,g2,g3,g4,_⟩:=h s hs;rw[show Q8k W s=true by unfold Q8k inI;simp only[z1,z6];omega] at h3;cases h3
theorem Z27 {ss:List Sgt}{k:Int}(hk:k=3\/k=4) (ht:Q7 H W H R=0) (hp:p<R.length) (hl:ss.length<=60) (h:Z21 (Wy W H R [swD k p]) R.length W.length ss) :
  decide (swD k p∈Lf H W H R ss)=!(Wy W H R [swD k p]==Wy W H R []):=by
 obtain⟨f0,_,f2,_,_,_,_⟩:=U8 ht;have hw:1<=W.length:=by have:=Dh f0;omega
 have hr:=(Lt (ds:=[swD k p]) ht (λz hz=>by rw[zx.1 hz];exact Q68 hk hp f2 hw)).1;have dU:ss.all (Q80 (Wy W H R [swD k p]))=true:=z8.2 λs hs=>by obtain⟨g1,g2,g3,g4,g5⟩:=h s hs;unfold Q80;rw[hr,xJ (by omega),g5];simp
 unfold Lf;rw[z2 (Q6k ht hl h)];cases hc:(Wy W H R [swD k p]==Wy W H R []) with
 |true =>refine xW λhm=>?_;have:=(xR.1 hm).2;unfold Bo at this;rw[hc] at this;cases this
 |false =>refine zG (xR.2 ⟨Z90 hk hp,?_⟩);unfold Bo;rw[hc,dU];rfl
end
theorem Z2v {hk:Int}{lw:List Int}{hd:Int}{rows:List Int}{ss:List Sgt}(h1:hd<=24) (h2:rows.length<=60) (h3:lw.length<=110):(Lf hk lw hd rows ss).length<=2000:=by
 unfold Lf;split
 .refine zO (List.length_filter_le _ _) ?_;unfold dmA;have:rows.length*hd.toNat<=60*24:=Nat.mul_le_mul h2 (by omega);simp only[zn,Q3m,Oy,SJ,Q3w];omega
 .simp
end Go.Proofs.Tryz
namespace Go.Proofs.Tryz
open Go Go.V Go.Proofs
def GC:AL ((Int×List Int×List Int×List Int)×Int×Bool):=(.cons (.agg (.cons (.k (.i .u8)) (.cons (.k (.list (.i .u8))) (.cons (.k (.list (.i .u16))) (.one (.k (.list (.i .u8)))))))) (.cons (.k (.i .u8)) (.one (.k .bo))))
def S6 (d:(Int×List Int×List Int×List Int)×Int×Bool):Prop:=bOk d.1.1 d.1.2.1 d.1.2.2.1 d.1.2.2.2/\0<=d.2.1/\d.2.1<=255/\d.1.2.2.2.length<=9223372036854775807
def Mp (d:(Int×List Int×List Int×List Int)×Int×Bool):SV:=.val .bo true
def Me (d:(Int×List Int×List Int×List Int)×Int×Bool):List OB:=[]
def Dv:CSp:=Y9 GC S6 Mp Me
abbrev X3 (h8:Int) (ws:List Int) (rs:List Int):=(acC (NW (hkN 12 h8) (ZJ (hkN 12 h8) 10 rs)) (TW (hkN 12 h8) (ZJ (hkN 12 h8) 10 rs)) (hkN 12 h8) (Qv (hkN 12 h8) 30 ws))
abbrev Qc (h8:Int) (rs:List Int):=(TW (hkN 12 h8) (ZJ (hkN 12 h8) 10 rs))
abbrev Z4 (h8:Int) (rs:List Int):=(NW (hkN 12 h8) (ZJ (hkN 12 h8) 10 rs))
abbrev Y_ (h8:Int):=((hkN 12 h8)=(hkN 12 h8)/\True/\(hkN 12 h8)=(hkN 12 h8)/\True/\(([]:List SV)=[]))
abbrev Y6 (h8:Int) (rs:List Int):=((ZJ (hkN 12 h8) 10 rs)=(ZJ (hkN 12 h8) 10 rs)/\false=false)
abbrev K3 (h8:Int) (ws:List Int):=((Qv (hkN 12 h8) 30 ws)=(Qv (hkN 12 h8) 30 ws)/\false=false)
abbrev K1 (h8:Int) (rs:List Int):=((Z4 h8 rs)=(Z4 h8 rs)/\True/\(([]:List SV)=[]))
abbrev QE (h8:Int) (rs:List Int):=(lI (ZJ (hkN 12 h8) 10 rs))
abbrev P1 (h8:Int) (ws:List Int) (rs:List Int):=((X3 h8 ws rs)=(X3 h8 ws rs)/\(List.isEmpty (X3 h8 ws rs))=(List.isEmpty (X3 h8 ws rs)))
abbrev Vk (h8:Int) (ws:List Int) (rs:List Int) (ds:List Int):=(h8=h8/\ws=ws/\rs=rs/\ds=ds/\(([]:List SV)=[]))
abbrev Gy (h8:Int) (ws:List Int) (rs:List Int):=(acB (Z4 h8 rs) (Qc h8 rs) (hkN 12 h8) (Qv (hkN 12 h8) 30 ws))
abbrev Us :=((0:Int),((0:Int),false))
abbrev Ey :=((0:Int)=(0:Int)/\(0:Int)=(0:Int)/\false=false/\(([]:List SV)=[]))
def K2 (h8:Int) (ws:List Int) (rs:List Int) (ds:List Int) (wh:Int) (tu:Bool):Prop :=
 (bOk h8 ws rs ds)/\(I64 wh)/\((QE h8 rs)≠0)/\∀ (y1:Int),y1=(Int.tmod wh (QE h8 rs))->((ZJ (hkN 12 h8) 10 rs).length<=1000)/\((ZJ (hkN 12 h8) 10 rs).length<=1000)/\∀ (y2:Bool),y2=((KG (hkN 12 h8) (ZJ (hkN 12 h8) 10 rs)) != (0:Int))->∀ (y3:Bool),y3=((lI (Qc h8 rs)) != (QE h8 rs))->∀ (y4:Bool),y4=(y2||y3)->(y4=true ->
  (false=true/\(True))) /\
 (y4=false ->
  ((Qc h8 rs).length<=1000)/\∃ (e3:Int),J2r (λ(q3:(Int×(List (Int×Int×Bool)))->Prop) =>
  (tu=true ->
   (0<=y1)/\(y1<(List.length (Qc h8 rs)))/\(∃ d4:Int×(List (Int×Int×Bool)),((True/\True/\(QE h8 rs)=(QE h8 rs)/\True/\True/\True/\True)/\((Vk h8 ws rs ds)/\(Y_ h8)/\(K3 h8 ws)/\(Y6 h8 rs)/\(K1 h8 rs)/\((Qc h8 rs)=(Qc h8 rs)/\(Qc h8 rs).isEmpty=(List.isEmpty (Qc h8 rs)))/\((3:Int)=d4.1/\y1=e3/\(0:Int)=(0:Int)/\(0:Int)=(0:Int)/\false=false/\(([]:List SV)=[]))/\(K1 h8 rs)/\((sT (Qc h8 rs) y1 ((gD (Qc h8 rs) y1 (0,(0,false))).1,((gD (Qc h8 rs) y1 (0,(0,false))).2.1,true)))=d4.2/\false=false)/\True))/\q3 d4)) /\
  (tu=false ->
   (0<=y1)/\(y1<(List.length (Qc h8 rs)))/\∀ (kg:Int),kg=(gD (Qc h8 rs) y1 (0,(0,false))).1->∀ (jx:Int),jx=(gD (Qc h8 rs) y1 (0,(0,false))).2.1->∀ (ki:Bool),ki=(gD (Qc h8 rs) y1 (0,(0,false))).2.2->(I64 (y1+(1:Int)))/\((QE h8 rs)≠0)/\∀ (gN:Int),gN=(Int.tmod (y1+(1:Int)) (QE h8 rs))->(0<=gN)/\(gN<(List.length (Qc h8 rs)))/\∀ (gO:Int),gO=(gD (Qc h8 rs) gN (0,(0,false))).1->∀ (gP:Int),gP=(gD (Qc h8 rs) gN (0,(0,false))).2.1->∀ (jy:Bool),jy=(gD (Qc h8 rs) gN (0,(0,false))).2.2->((True/\True/\(QE h8 rs)=(QE h8 rs)/\y1=y1/\True/\True/\True/\True/\True/\True/\True/\True/\True/\(gO=gO/\gP=gP/\jy=jy/\(([]:List SV)=[]))/\True/\True/\True/\True)/\((Vk h8 ws rs ds)/\(Y_ h8)/\(K1 h8 rs)/\((4:Int)=(4:Int)/\y1=y1/\(0:Int)=(0:Int)/\(0:Int)=(0:Int)/\false=false/\(([]:List SV)=[]))/\(K1 h8 rs)/\(kg=kg/\jx=jx/\ki=ki/\(([]:List SV)=[]))/\Ey/\(K3 h8 ws)/\(Y6 h8 rs)/\((Qc h8 rs)=(Qc h8 rs)/\(Qc h8 rs).isEmpty=(Qc h8 rs).isEmpty)/\((Qc h8 rs)=(Qc h8 rs)/\false=false)/\(Y6 h8 rs)/\True))/\((0<=y1)/\(y1<(List.length (Qc h8 rs)))/\∀ (oI:Int),oI=(gD (Qc h8 rs) y1 (0,(0,false))).1->∀ (kj:Int),kj=(gD (Qc h8 rs) y1 (0,(0,false))).2.1->∀ (kn:Bool),kn=(gD (Qc h8 rs) y1 (0,(0,false))).2.2->(I64 (y1+(1:Int)))/\((QE h8 rs)≠0)/\∀ (gQ:Int),gQ=(Int.tmod (y1+(1:Int)) (QE h8 rs))->(0<=gQ)/\(gQ<(List.length (Qc h8 rs)))/\∀ (oJ:Int),oJ=(gD (Qc h8 rs) gQ (0,(0,false))).1->∀ (sZ:Int),sZ=(gD (Qc h8 rs) gQ (0,(0,false))).2.1->∀ (s5:Bool),s5=(gD (Qc h8 rs) gQ (0,(0,false))).2.2->((True/\True/\(QE h8 rs)=(QE h8 rs)/\y1=y1/\True/\True/\True/\True/\True/\True/\True/\True/\True/\(oJ=gO/\sZ=gP/\s5=jy/\(([]:List SV)=[]))/\True/\True/\True/\True)/\((Vk h8 ws rs ds)/\(Y_ h8)/\(K1 h8 rs)/\((4:Int)=(4:Int)/\y1=y1/\(0:Int)=(0:Int)/\(0:Int)=(0:Int)/\false=false/\(([]:List SV)=[]))/\(K1 h8 rs)/\(oI=kg/\kj=jx/\kn=ki/\(([]:List SV)=[]))/\Ey/\(K3 h8 ws)/\(Y6 h8 rs)/\((Qc h8 rs)=(Qc h8 rs)/\(Qc h8 rs).isEmpty=(Qc h8 rs).isEmpty)/\((Qc h8 rs)=(Qc h8 rs)/\false=false)/\(Y6 h8 rs)/\True)))/\(0<=y1)/\(y1<(List.length (Qc h8 rs)))/\(I64 (y1+(1:Int)))/\((QE h8 rs)≠0)/\∀ (pM:Int),pM=(Int.tmod (y1+(1:Int)) (QE h8 rs))->(0<=pM)/\(pM<(List.length (sT (Qc h8 rs) y1 (gO,(gP,jy)))))/\(∃ d5:Int×(List (Int×Int×Bool)),((True/\True/\(QE h8 rs)=(QE h8 rs)/\True/\True/\True/\True)/\((Vk h8 ws rs ds)/\(Y_ h8)/\(K3 h8 ws)/\(Y6 h8 rs)/\(K1 h8 rs)/\((Qc h8 rs)=(Qc h8 rs)/\(Qc h8 rs).isEmpty=(List.isEmpty (Qc h8 rs)))/\((4:Int)=d5.1/\y1=e3/\(0:Int)=(0:Int)/\(0:Int)=(0:Int)/\false=false/\(([]:List SV)=[]))/\(K1 h8 rs)/\((sT (sT (Qc h8 rs) y1 (gO,(gP,jy))) pM (kg,(jx,ki)))=d5.2/\false=false)/\True))/\q3 d5)))
  (λ(d3:Int×(List (Int×Int×Bool))) =>
   (d3.2.length<=60/\(Qv (hkN 12 h8) 30 ws).length<=110)/\((Qc h8 rs).length<=60/\(Qv (hkN 12 h8) 30 ws).length<=110)/\((Qv (hkN 12 h8) 30 ws).length<=1000/\(ZJ (hkN 12 h8) 10 rs).length<=1000)/\(false=true->(Qv (hkN 12 h8) 30 ws)=[])/\(false=true->(ZJ (hkN 12 h8) 10 rs)=[])/\((True/\True/\(QE h8 rs)=(QE h8 rs)/\True/\True/\True/\True/\True/\True/\True/\(acB (Z4 h8 rs) d3.2 (hkN 12 h8) (Qv (hkN 12 h8) 30 ws))=(acB (Z4 h8 rs) d3.2 (hkN 12 h8) (Qv (hkN 12 h8) 30 ws))/\True/\(Gy h8 ws rs)=(Gy h8 ws rs)/\True/\(Y_ h8)/\True/\(QE h8 rs)=(QE h8 rs)/\True)/\((Vk h8 ws rs ds)/\(Y_ h8)/\(K1 h8 rs)/\(d3.1=d3.1/\e3=e3/\(0:Int)=(0:Int)/\(0:Int)=(0:Int)/\false=false/\(([]:List SV)=[]))/\(K1 h8 rs)/\(K3 h8 ws)/\((Qc h8 rs)=(Qc h8 rs)/\(List.isEmpty (Qc h8 rs))=(List.isEmpty (Qc h8 rs)))/\(d3.2=d3.2/\false=false)/\((acC (Z4 h8 rs) d3.2 (hkN 12 h8) (Qv (hkN 12 h8) 30 ws))=(acC (Z4 h8 rs) d3.2 (hkN 12 h8) (Qv (hkN 12 h8) 30 ws))/\(acC (Z4 h8 rs) d3.2 (hkN 12 h8) (Qv (hkN 12 h8) 30 ws)).isEmpty=(acC (Z4 h8 rs) d3.2 (hkN 12 h8) (Qv (hkN 12 h8) 30 ws)).isEmpty)/\((X3 h8 ws rs)=(X3 h8 ws rs)/\(X3 h8 ws rs).isEmpty=(X3 h8 ws rs).isEmpty)/\(K3 h8 ws)/\([(d3.1,(e3,Us))]=[(d3.1,(e3,Us))]/\false=false)/\(Y6 h8 rs)/\(Y6 h8 rs)/\True))/\(((Qv (hkN 12 h8) 30 ws).length<=1000/\(ZJ (hkN 12 h8) 10 rs).length<=1000)/\(false=true->(Qv (hkN 12 h8) 30 ws)=[])/\(false=true->(ZJ (hkN 12 h8) 10 rs)=[])/\((True/\True/\(QE h8 rs)=(QE h8 rs)/\True/\True/\True/\True/\True/\True/\True/\(acB (Z4 h8 rs) d3.2 (hkN 12 h8) (Qv (hkN 12 h8) 30 ws))=(acB (Z4 h8 rs) d3.2 (hkN 12 h8) (Qv (hkN 12 h8) 30 ws))/\True/\(Gy h8 ws rs)=(Gy h8 ws rs)/\True/\(Y_ h8)/\True/\(QE h8 rs)=(QE h8 rs)/\True)/\((Vk h8 ws rs ds)/\(Y_ h8)/\(K1 h8 rs)/\(d3.1=d3.1/\e3=e3/\(0:Int)=(0:Int)/\(0:Int)=(0:Int)/\false=false/\(([]:List SV)=[]))/\(K1 h8 rs)/\(K3 h8 ws)/\((Qc h8 rs)=(Qc h8 rs)/\(List.isEmpty (Qc h8 rs))=(List.isEmpty (Qc h8 rs)))/\(d3.2=d3.2/\false=false)/\((acC (Z4 h8 rs) d3.2 (hkN 12 h8) (Qv (hkN 12 h8) 30 ws))=(acC (Z4 h8 rs) d3.2 (hkN 12 h8) (Qv (hkN 12 h8) 30 ws))/\(acC (Z4 h8 rs) d3.2 (hkN 12 h8) (Qv (hkN 12 h8) 30 ws)).isEmpty=(acC (Z4 h8 rs) d3.2 (hkN 12 h8) (Qv (hkN 12 h8) 30 ws)).isEmpty)/\((X3 h8 ws rs)=(X3 h8 ws rs)/\(X3 h8 ws rs).isEmpty=(X3 h8 ws rs).isEmpty)/\(K3 h8 ws)/\([(d3.1,(e3,Us))]=[(d3.1,(e3,Us))]/\false=false)/\(Y6 h8 rs)/\(Y6 h8 rs)/\True)))/\((Qv (hkN 12 h8) 30 ws).length<=110/\(ZJ (hkN 12 h8) 10 rs).length<=110/\[(d3.1,(e3,Us))].length=1)/\(d3.2.length<=1000/\(WE (Z4 h8 rs) d3.2=0->d3.2.length<=12))/\∀ (s6:Bool),s6=(!(acB (Z4 h8 rs) d3.2 (hkN 12 h8) (Qv (hkN 12 h8) 30 ws)))->∀ (s7:Bool),s7=(!(Gy h8 ws rs))->∀ (s8:Bool),s8=(s6||s7)->∀ (s9:Bool),s9=(JM (hkN 12 h8) (Qv (hkN 12 h8) 30 ws) (hkN 12 h8) (ZJ (hkN 12 h8) 10 rs) [(d3.1,(e3,Us))] (QE h8 rs) != (0:Int))->∀ (s_:Bool),s_=(s8||s9)->∀ (ta:Bool),ta=((WE (Z4 h8 rs) d3.2) != (0:Int))->∀ (rM:Bool),rM=(s_||ta)->(rM=false->(acC (Z4 h8 rs) d3.2 (hkN 12 h8) (Qv (hkN 12 h8) 30 ws)).length<=1000000)/\∀ (tc:Bool),tc=(!((acC (Z4 h8 rs) d3.2 (hkN 12 h8) (Qv (hkN 12 h8) 30 ws))==(Cv (hkN 12 h8) (Qv (hkN 12 h8) 30 ws) (hkN 12 h8) (ZJ (hkN 12 h8) 10 rs) [(d3.1,(e3,Us))] (QE h8 rs))))->∀ (rN:Bool),rN=(rM||tc)->(rN=true ->
    (false=true/\(True))) /\
   (rN=false ->
    ((Gb (Z4 h8 rs) d3.2).length<=60/\(Qv (hkN 12 h8) 30 ws).length<=110)/\∀ (rO:Bool),rO=(!(acB (Sk (Z4 h8 rs) d3.2) (Gb (Z4 h8 rs) d3.2) (hkN 12 h8) (Qv (hkN 12 h8) 30 ws)))->(rO=false->(acC (Sk (Z4 h8 rs) d3.2) (Gb (Z4 h8 rs) d3.2) (hkN 12 h8) (Qv (hkN 12 h8) 30 ws)).length<=1000000)/\∀ (td:Bool),td=(!((acC (Sk (Z4 h8 rs) d3.2) (Gb (Z4 h8 rs) d3.2) (hkN 12 h8) (Qv (hkN 12 h8) 30 ws))==(X3 h8 ws rs)))->∀ (rP:Bool),rP=(rO||td)->(rP=true ->
     (false=true/\(True))) /\
    (rP=false ->
     ∃ (e8:Int×Int×(List (List UInt8))) (d80:(List (Int×Int×Bool))×Int),((True/\True/\(QE h8 rs)=(QE h8 rs)/\True/\True/\True/\True/\(0:Int)=d80.2/\True)/\((Vk h8 ws rs ds)/\(Y_ h8)/\(K3 h8 ws)/\(Y6 h8 rs)/\(d3.1=e8.1/\e3=e8.2.1/\(0:Int)=(0:Int)/\(0:Int)=(0:Int)/\false=false/\(([]:List SV)=[]))/\((acC (Z4 h8 rs) d3.2 (hkN 12 h8) (Qv (hkN 12 h8) 30 ws))=e8.2.2/\(acC (Z4 h8 rs) d3.2 (hkN 12 h8) (Qv (hkN 12 h8) 30 ws)).isEmpty=(List.isEmpty e8.2.2))/\((X3 h8 ws rs)=(X3 h8 ws rs)/\(X3 h8 ws rs).isEmpty=(List.isEmpty (X3 h8 ws rs)))/\(([]:List (Int×Int×Bool))=d80.1/\false=false)/\True)) /\
     LoopP (λ(d8:(List (Int×Int×Bool))×Int) (q8:((List (Int×Int×Bool))×Int)->Prop) =>
      ∀ (oN:Bool),oN=(decide (d8.2<(QE h8 rs)))->∀ (oO:Bool),oO=(decide ((lI d8.1)<(40:Int)))->∀ (lN:Bool),lN=(oN&&oO)->(lN=true ->
       ∃ (b8:Int×Int×(List (List UInt8))×Int) (d110:(List (Int×Int×Bool))×Int),((True/\True/\(QE h8 rs)=(QE h8 rs)/\True/\True/\True/\True/\d8.2=b8.2.2.2/\(0:Int)=d110.2/\True)/\((Vk h8 ws rs ds)/\(Y_ h8)/\(K3 h8 ws)/\(Y6 h8 rs)/\(e8.1=b8.1/\e8.2.1=b8.2.1/\(0:Int)=(0:Int)/\(0:Int)=(0:Int)/\false=false/\(([]:List SV)=[]))/\(e8.2.2=b8.2.2.1/\(List.isEmpty e8.2.2)=(List.isEmpty b8.2.2.1))/\(P1 h8 ws rs)/\(d8.1=d110.1/\false=false)/\True)) /\
       LoopP (λ(d11:(List (Int×Int×Bool))×Int) (vG:((List (Int×Int×Bool))×Int)->Prop) =>
        (0<=b8.2.2.2)/\(b8.2.2.2<(List.length b8.2.2.1))/\∀ (oP:List UInt8),oP=(gD b8.2.2.1 b8.2.2.2 [])->∀ (oQ:Bool),oQ=(decide (d11.2<(lI oP)))->∀ (oR:Bool),oR=(decide ((lI d11.1)<(40:Int)))->∀ (lO:Bool),lO=(oQ&&oR)->(lO=true ->
         (0<=b8.2.2.2)/\(b8.2.2.2<(List.length b8.2.2.1))/\∀ (lP:List UInt8),lP=(gD b8.2.2.1 b8.2.2.2 [])->(0<=d11.2)/\(d11.2<(List.length lP))/\∀ (oS:Int),oS=((UInt8.toNat (gD lP d11.2 0):Nat):Int)->∀ (lQ:Bool),lQ=(oS==(120:Int))->(((List.length d11.1)+(List.length [(b8.2.2.2,(d11.2,lQ))]))*24<=70368744177664)/\(I64 (b8.2.2.2+d11.2))/\(ds.length<=9223372036854775807/\0<=(b8.2.2.2+d11.2)/\∀ x∈ds,0<=x/\x<=255)/\((3:Int)≠0)/\∀ (jB:Int),jB=(Int.tmod (Et ds (b8.2.2.2+d11.2)) (3:Int))->(I64 ((1:Int)+jB))/\(I64 (d11.2+((1:Int)+jB)))/\(∃ d12:(List (Int×Int×Bool))×Int,((True/\True/\(QE h8 rs)=(QE h8 rs)/\True/\True/\True/\True/\b8.2.2.2=b8.2.2.2/\(d11.2+((1:Int)+jB))=d12.2/\True)/\((Vk h8 ws rs ds)/\(Y_ h8)/\(K3 h8 ws)/\(Y6 h8 rs)/\(b8.1=b8.1/\b8.2.1=b8.2.1/\(0:Int)=(0:Int)/\(0:Int)=(0:Int)/\false=false/\(([]:List SV)=[]))/\(b8.2.2.1=b8.2.2.1/\(List.isEmpty b8.2.2.1)=(List.isEmpty b8.2.2.1))/\(P1 h8 ws rs)/\((d11.1++[(b8.2.2.2,(d11.2,lQ))])=d12.1/\false=false)/\True))/\vG d12)) /\
        (lO=false ->
         (I64 (b8.2.2.2+(1:Int)))/\(∃ d13:(List (Int×Int×Bool))×Int,((True/\True/\(QE h8 rs)=(QE h8 rs)/\True/\True/\True/\True/\(b8.2.2.2+(1:Int))=d13.2/\True)/\((Vk h8 ws rs ds)/\(Y_ h8)/\(K3 h8 ws)/\(Y6 h8 rs)/\(b8.1=e8.1/\b8.2.1=e8.2.1/\(0:Int)=(0:Int)/\(0:Int)=(0:Int)/\false=false/\(([]:List SV)=[]))/\(b8.2.2.1=e8.2.2/\(List.isEmpty b8.2.2.1)=(List.isEmpty e8.2.2))/\(P1 h8 ws rs)/\(d11.1=d13.1/\false=false)/\True))/\q8 d13))) d110) /\
      (lN=false ->
       ((Qv (hkN 12 h8) 30 ws).length<=110/\(ZJ (hkN 12 h8) 10 rs).length<=110/\d8.1.length<=1000)/\∀ (lR:Bool),lR=(KA (hkN 12 h8) (Qv (hkN 12 h8) 30 ws) (hkN 12 h8) (ZJ (hkN 12 h8) 10 rs) d8.1 != (0:Int))->(lR=true ->
        (false=true/\(True))) /\
       (lR=false ->
        ∃ (cy:Int×Int×(List (List UInt8))×(List (Int×Int×Int×Int×Bool))) (lS:Bool×Int),((True/\True/\True/\True/\false=lS.1/\(0:Int)=lS.2/\True)/\((e8.1=cy.1/\e8.2.1=cy.2.1/\(0:Int)=(0:Int)/\(0:Int)=(0:Int)/\false=false/\(([]:List SV)=[]))/\(e8.2.2=cy.2.2.1/\(List.isEmpty e8.2.2)=(List.isEmpty cy.2.2.1))/\(P1 h8 ws rs)/\((Lf (hkN 12 h8) (Qv (hkN 12 h8) 30 ws) (hkN 12 h8) (ZJ (hkN 12 h8) 10 rs) d8.1)=cy.2.2.2/\(Lf (hkN 12 h8) (Qv (hkN 12 h8) 30 ws) (hkN 12 h8) (ZJ (hkN 12 h8) 10 rs) d8.1).isEmpty=(List.isEmpty cy.2.2.2))/\True)) /\
        LoopP (λ(d16:Bool×Int) (vH:(Bool×Int)->Prop) =>
         ∀ (lT:Bool),lT=(decide (d16.2<(lI cy.2.2.2)))->(lT=true ->
          (d16.1=false->0<=d16.2)/\(d16.1=false->d16.2<(List.length cy.2.2.2))/\∀ (oT:Int),oT=(gD cy.2.2.2 d16.2 (0,(0,(0,(0,false))))).1->∀ (oU:Int),oU=(gD cy.2.2.2 d16.2 (0,(0,(0,(0,false))))).2.1->∀ (oV:Int),oV=(gD cy.2.2.2 d16.2 (0,(0,(0,(0,false))))).2.2.1->∀ (oW:Int),oW=(gD cy.2.2.2 d16.2 (0,(0,(0,(0,false))))).2.2.2.1->∀ (oX:Bool),oX=(gD cy.2.2.2 d16.2 (0,(0,(0,(0,false))))).2.2.2.2->∀ (oY:Bool),oY=((oT==cy.1)&&((oU==cy.2.1)&&((oV==(0:Int))&&((oW==(0:Int))&&(oX==false)))))->∀ (oZ:Bool),oZ=(d16.1||oY)->(I64 (d16.2+(1:Int)))/\(∃ d17:Bool×Int,((True/\True/\True/\True/\oZ=d17.1/\(d16.2+(1:Int))=d17.2/\True)/\((cy.1=cy.1/\cy.2.1=cy.2.1/\(0:Int)=(0:Int)/\(0:Int)=(0:Int)/\false=false/\(([]:List SV)=[]))/\(cy.2.2.1=cy.2.2.1/\(List.isEmpty cy.2.2.1)=(List.isEmpty cy.2.2.1))/\(P1 h8 ws rs)/\(cy.2.2.2=cy.2.2.2/\(List.isEmpty cy.2.2.2)=(List.isEmpty cy.2.2.2))/\True))/\vH d17)) /\
         (lT=false ->
          (cy.2.2.1.length<=1000000)/\∀ (o3:Bool),o3=(!(cy.2.2.1==(X3 h8 ws rs)))->∀ (lU:Bool),lU=(d16.1==o3)->(lU=true->True)/\∀ (lW:Bool),lW=(lU&&true)->(lW=true->True)/\∀ (o4:Bool),o4=(lW&&true)->(o4=true/\(True)))) lS))) d80))))
def Gq:Cx:=⟨[(43,(.pair (.i .i64) (.pair (.i .i64) (.pair (.i .i64) (.pair (.i .i64) .bo))))),(59,(.pair (.i .i64) (.pair (.i .i64) .bo)))],[(4,Vh),(6,Md),(5,Dr),(7,Nj),(8,MO),(10,GX),(9,CSp.or GY V8),(11,BR),(12,D9),(13,GU),(14,Ti),(15,PD),(16,Pp)],241,[],0,[],[],[],[3,7,8,9,10,12,13,14,15,16,17,18,19,82,112,114,115],true,[],[],[],[]⟩
def Su (h8:Int) (ws:List Int) (rs:List Int) (ds:List Int) (wh:Int) (tu:Bool):List (Nat×LoopAnn):=[(0,⟨Int×Int×(List (List UInt8)),(List (Int×Int×Bool))×Int,[3,7,8,12,16,18,25,26],λe x=>[.box 3 0,.box 7 0,.val (.i .i64) (((List.length (ZJ (hkN 12 h8) 10 rs)):Nat):Int),.box 12 0,.lst 100,.lst 107,.lst 159,.val (.i .i64) x.2],λe x=>[(3,.slot 3,.cells [.val (.i .u8) h8,.val (.list (.i .u8)) ws,.val (.list (.i .u16)) rs,.val (.list (.i .u8)) ds] (some 25)),(7,.slot 7,.cells [.val (.i .i64) (hkN 12 h8),.lst 34,.val (.i .i64) (hkN 12 h8),.lst 275] (some 32)),(34,.cell 7 1,.lst 3 (.i .i64) (Qv (hkN 12 h8) 30 ws) false),(275,.cell 7 3,.lst 3 (.i .i64) (ZJ (hkN 12 h8) 10 rs) false),(12,.slot 12,.cells [.val (.i .i64) e.1,.val (.i .i64) e.2.1,.val (.i .i64) (0:Int),.val (.i .i64) (0:Int),.val .bo false] (some 43)),(100,.slot 16,.lst 9 .st e.2.2 (List.isEmpty e.2.2)),(107,.slot 18,.lst 9 .st (acC (NW (hkN 12 h8) (ZJ (hkN 12 h8) 10 rs)) (TW (hkN 12 h8) (ZJ (hkN 12 h8) 10 rs)) (hkN 12 h8) (Qv (hkN 12 h8) 30 ws)) (List.isEmpty (acC (NW (hkN 12 h8) (ZJ (hkN 12 h8) 10 rs)) (TW (hkN 12 h8) (ZJ (hkN 12 h8) 10 rs)) (hkN 12 h8) (Qv (hkN 12 h8) 30 ws)))),(159,.slot 25,.lst 59 (.pair (.i .i64) (.pair (.i .i64) .bo)) x.1 false)]⟩),
 (2,⟨Int×Int×(List (List UInt8))×Int,(List (Int×Int×Bool))×Int,[3,7,8,12,16,18,25,26,27],λe x=>[.box 3 0,.box 7 0,.val (.i .i64) (((List.length (ZJ (hkN 12 h8) 10 rs)):Nat):Int),.box 12 0,.lst 100,.lst 107,.lst 159,.val (.i .i64) e.2.2.2,.val (.i .i64) x.2],λe x=>[(3,.slot 3,.cells [.val (.i .u8) h8,.val (.list (.i .u8)) ws,.val (.list (.i .u16)) rs,.val (.list (.i .u8)) ds] (some 25)),(7,.slot 7,.cells [.val (.i .i64) (hkN 12 h8),.lst 34,.val (.i .i64) (hkN 12 h8),.lst 275] (some 32)),(34,.cell 7 1,.lst 3 (.i .i64) (Qv (hkN 12 h8) 30 ws) false),(275,.cell 7 3,.lst 3 (.i .i64) (ZJ (hkN 12 h8) 10 rs) false),(12,.slot 12,.cells [.val (.i .i64) e.1,.val (.i .i64) e.2.1,.val (.i .i64) (0:Int),.val (.i .i64) (0:Int),.val .bo false] (some 43)),(100,.slot 16,.lst 9 .st e.2.2.1 (List.isEmpty e.2.2.1)),(107,.slot 18,.lst 9 .st (acC (NW (hkN 12 h8) (ZJ (hkN 12 h8) 10 rs)) (TW (hkN 12 h8) (ZJ (hkN 12 h8) 10 rs)) (hkN 12 h8) (Qv (hkN 12 h8) 30 ws)) (List.isEmpty (acC (NW (hkN 12 h8) (ZJ (hkN 12 h8) 10 rs)) (TW (hkN 12 h8) (ZJ (hkN 12 h8) 10 rs)) (hkN 12 h8) (Qv (hkN 12 h8) 30 ws)))),(159,.slot 25,.lst 59 (.pair (.i .i64) (.pair (.i .i64) .bo)) x.1 false)]⟩),
 (4,⟨Int×Int×(List (List UInt8))×(List (Int×Int×Int×Int×Bool)),Bool×Int,[12,16,18,28,31,32],λe x=>[.box 12 0,.lst 100,.lst 107,.lst 208,.val .bo x.1,.val (.i .i64) x.2],λe x=>[(12,.slot 12,.cells [.val (.i .i64) e.1,.val (.i .i64) e.2.1,.val (.i .i64) (0:Int),.val (.i .i64) (0:Int),.val .bo false] (some 43)),(100,.slot 16,.lst 9 .st e.2.2.1 (List.isEmpty e.2.2.1)),(107,.slot 18,.lst 9 .st (acC (NW (hkN 12 h8) (ZJ (hkN 12 h8) 10 rs)) (TW (hkN 12 h8) (ZJ (hkN 12 h8) 10 rs)) (hkN 12 h8) (Qv (hkN 12 h8) 30 ws)) (List.isEmpty (acC (NW (hkN 12 h8) (ZJ (hkN 12 h8) 10 rs)) (TW (hkN 12 h8) (ZJ (hkN 12 h8) 10 rs)) (hkN 12 h8) (Qv (hkN 12 h8) 30 ws)))),(208,.slot 28,.lst 43 (.pair (.i .i64) (.pair (.i .i64) (.pair (.i .i64) (.pair (.i .i64) .bo)))) e.2.2.2 (List.isEmpty e.2.2.2))]⟩),
 (3000063,⟨Int,Int×(List (Int×Int×Bool)),[3,7,8,10,12,13],λe x=>[.box 3 0,.box 7 0,.val (.i .i64) (((List.length (ZJ (hkN 12 h8) 10 rs)):Nat):Int),.box 10 0,.box 12 0,.box 13 0],λe x=>[(3,.slot 3,.cells [.val (.i .u8) h8,.val (.list (.i .u8)) ws,.val (.list (.i .u16)) rs,.val (.list (.i .u8)) ds] (some 25)),(7,.slot 7,.cells [.val (.i .i64) (hkN 12 h8),.lst 34,.val (.i .i64) (hkN 12 h8),.lst 275] (some 32)),(34,.cell 7 1,.lst 3 (.i .i64) (Qv (hkN 12 h8) 30 ws) false),(275,.cell 7 3,.lst 3 (.i .i64) (ZJ (hkN 12 h8) 10 rs) false),(10,.slot 10,.cells [.val (.i .i64) (NW (hkN 12 h8) (ZJ (hkN 12 h8) 10 rs)),.lst 47] (some 36)),(47,.cell 10 1,.lst 46 (.pair (.i .i64) (.pair (.i .i64) .bo)) (TW (hkN 12 h8) (ZJ (hkN 12 h8) 10 rs)) (List.isEmpty (TW (hkN 12 h8) (ZJ (hkN 12 h8) 10 rs)))),(12,.slot 12,.cells [.val (.i .i64) x.1,.val (.i .i64) e,.val (.i .i64) (0:Int),.val (.i .i64) (0:Int),.val .bo false] (some 43)),(13,.slot 13,.cells [.val (.i .i64) (NW (hkN 12 h8) (ZJ (hkN 12 h8) 10 rs)),.lst 62] (some 36)),(62,.cell 13 1,.lst 46 (.pair (.i .i64) (.pair (.i .i64) .bo)) x.2 false)]⟩)]
theorem Sp (d:(Int×List Int×List Int×List Int)×Int×Bool):gwp (Gq) (Su d.1.1 d.1.2.1 d.1.2.2.1 d.1.2.2.2 d.2.1 d.2.2) c3 0 (Yh [.tmp 6] (Mp d) (Me d)) (Qo 241 (AL.can GC d))=K2 d.1.1 d.1.2.1 d.1.2.2.1 d.1.2.2.2 d.2.1 d.2.2:=by kernel_rfl
abbrev SN:Prop:=OkC Tryz.prog 3 Dv
theorem Ss (h:∀ (h8:Int) (ws:List Int) (rs:List Int) (ds:List Int) (wh:Int) (tu:Bool),(bOk h8 ws rs ds/\0<=wh/\wh<=255/\ds.length<=9223372036854775807)->K2 h8 ws rs ds wh tu):OkC Tryz.prog 3 Dv :=
 Qu fun3 mixed (C:=Gq) (V:=λ(d:(Int×List Int×List Int×List Int)×Int×Bool)=>K2 d.1.1 d.1.2.1 d.1.2.2.1 d.1.2.2.2 d.2.1 d.2.2) ⟨(.cons Tu (.cons R8 (.cons FG (.cons Pz (.cons A0 (.cons Fh (.cons (OkC.or Ii TH) (.cons Q0e (.cons EZ (.cons FQ (.cons Q1h (.cons EE (.cons AJ .nil))))))))))))),XsOk.nil,ItsOk.nil,YlOk.nil,IysOk.nil,XfOk.nil⟩ (Sp) λd hp=>h d.1.1 d.1.2.1 d.1.2.2.1 d.1.2.2.2 d.2.1 d.2.2 hp
set_option maxHeartbeats 2000000 in
theorem ok_top_TopSwapped:SN:=Ss λh8 ws rs ds wh tu h=>by
 obtain⟨hL,p1,p2,nk⟩:=h;unfold K2
 (try delta X3 Qc Z4 Y_ Y6 K3 K1 QE P1 Vk Gy Us Ey q4)
 (try delta lI gD sT I64 Q1 pj8 pj4)
 obtain⟨⟨n1,n2⟩,⟨w1,w2,w3⟩,⟨r1,r2,r3⟩⟩:=Z1x hL;have hds:∀ x∈ds,0<=x/\x<=255:=hL.2.2.2.2;refine⟨hL,by rw[Qm];omega,?_⟩;clear hL;generalize Qv (hkN 12 h8) 30 ws=W at w1 w2 w3 |-;generalize ZJ (hkN 12 h8) 10 rs=R at r1 r2 r3 |-;generalize hkN 12 h8=H at n1 n2 w3 r3 |-;have me:1<=W.length:=x4.2 w1;have fA:1<=R.length:=x4.2 r1;have ht:Wu H W=0:=Z4k (by omega) (by omega) (by omega) me w3;have lX:Q7 H W H R=0:=Z3z ht rfl (by omega) (by omega) fA (by omega) r3;have pe:=Q4p ⟨n1,by omega⟩ r3 r1 (by omega);have pw:TW H R=Hq R:=by unfold TW;rw[z2 pe]
 have pk:NW H R=H:=by unfold NW;rw[z2 pe]
 have pl:=Mw R;rw[pw,pk,pe,pl];refine⟨by omega,λy1 tf=>?_⟩;obtain⟨p,hp,rfl⟩:∃ p:Nat,p<R.length/\y1=(p:Int):=⟨wh.toNat % R.length,xm _ (by omega),by rw[tf,show wh=((wh.toNat:Nat):Int) by omega];rfl⟩;clear tf;refine⟨by omega,by omega,λy2 e2 y3 e3 y4 e4=>⟨λc=>by rw[e4,e2,e3] at c;simp at c,λ_=>⟨by omega,(p:Int),λd=>swI H R p d,⟨λvI=>?_,λvI=>?_⟩,λd hd=>?_⟩⟩⟩
 .refine⟨by omega,by omega,(3,(Hq R).set p (((Hq R).getD p (0,(0,false))).1,(((Hq R).getD p (0,(0,false))).2.1,true))),?_,Z5m hp⟩;exact(by and_intros<;>first|rfl|trivial|simp)
 .have e1:Int.tmod ((p:Int)+1) (R.length:Int)=(((p+1) % R.length:Nat):Int):=rfl;have hq:(p+1) % R.length<R.length:=xm _ (by omega);simp only[true_and,and_true,ne_eq,z7,Int.ofNat_lt,forall_eq,e1,z7,pl,xl];have rQ:InK .i64 ((p:Int)+1):=by rw[Qm];omega
  refine⟨by omega,hp,rQ,by omega,by omega,hq,⟨by omega,hp,rQ,by omega,by omega,hq⟩,by omega,hp,rQ,by omega,by omega,hq,(4,((Hq R).set p ((Hq R).getD ((p+1) % R.length) (0,(0,false)))).set ((p+1) % R.length) ((Hq R).getD p (0,(0,false)))),⟨rfl,rfl⟩,Z41 hp⟩
 .obtain⟨b1,b2,b3,b4⟩:=Z4z hd lX hp;obtain⟨q1,q2⟩:=Z2m lX;obtain⟨hk,hM,aI⟩:=hd;have wx:=hM.len;have mb:Sk H d.2=H:=by unfold Sk;rw[z2 b3]
  have tg:JM H W H R [(d.1,((p:Int),(0,(0,false))))] (R.length:Int)=0:=Z9r lX (λz hz=>by rw[zx.1 hz];exact Q68 hk hp n1 me) (by simp) (by omega) (by omega);have cm:Cv H W H R [(d.1,((p:Int),(0,(0,false))))] (R.length:Int)=Wy W H R [swD d.1 p]:=Q9w tg;rw[cm,b1,b2,b3,b4,mb,q1,q2,tg];simp only[true_and,and_true,z6,zy,zH,bne_iff_ne,ne_eq,zW,bne_eq_false_iff_eq,Bool.not_eq_true',xg,forall_eq,false_implies,zj,Bool.or_self,xy,Bool.false_or,xH,xQ,implies_true,forall_const,not_true_eq_false,pl];clear b1 b2 b3 b4 mb cm q1 q2;obtain⟨c1,c2⟩:=Lt (ds:=[swD d.1 p]) lX (λz hz=>by rw[zx.1 hz];exact Q68 hk hp n1 me);have c3:=(Lt (ds:=[]) lX (λz hz=>by cases hz)).1;have rR:=λss=>Z27 (W:=W) (ss:=ss) hk lX hp;generalize hC:Wy W H R [swD d.1 p]=C at *
  generalize wy:Wy W H R []=C0 at *
  have rS:[(d.1,((p:Int),((0:Int),((0:Int),false))))].length=1:=rfl;refine⟨⟨by omega,by omega⟩,⟨by omega,by omega⟩,⟨by omega,by omega⟩,⟨by omega,by omega⟩,⟨by omega,by omega,rS⟩,⟨by omega,by omega⟩,by omega,λc=>by simp at c,λ_=>⟨⟨by omega,by omega⟩,by omega,(d.1,(p:Int),C),([],0),(by and_intros<;>first|rfl|trivial|simp),?_⟩⟩;dsimp only;refine⟨λx=>∃ i:Nat,x.2=(i:Int)/\i<=R.length/\x.1.length<=40/\Z21 C R.length W.length x.1,λx=>R.length-x.2.toNat,⟨0,rfl,by omega,by simp,λs hs=>by cases hs⟩,?_⟩;rintro⟨ss,j⟩ ⟨i,rfl,hi,hl,hs⟩;dsimp only at hl hs |-;refine⟨λc=>?_,λc=>⟨⟨by omega,by omega,by omega⟩,λaJ=>aJ (Q6k lX (by omega) hs),λ_=>⟨(d.1,(p:Int),C,Lf H W H R ss),(false,0),(by and_intros<;>first|rfl|trivial|simp),?_⟩⟩⟩
  .have c:i<R.length:=by
    rw[z1,z6] at c;omega
   refine⟨(d.1,(p:Int),C,(i:Int)),(ss,0),(by and_intros<;>first|rfl|trivial|simp),?_⟩;dsimp only;have cm:=(c2 _ (show C.getD i []∈C by rw[Qf (by omega)];exact zd _)).1;refine⟨λx=>∃ w:Nat,x.2=(w:Int)/\x.1.length<=40/\Z21 C R.length W.length x.1/\w<=200,λx=>W.length-x.2.toNat,⟨0,rfl,hl,hs,by omega⟩,?_⟩;rintro⟨s2,j2⟩ ⟨w,rfl,bZ,bG,wz⟩;dsimp only at bZ bG |-;simp only[z7];refine⟨by omega,by omega,λc4=>?_,λ_=>⟨by rw[Qm];omega,(s2,(i:Int)+1),(by and_intros<;>first|rfl|trivial|simp),⟨i+1,by dsimp only;omega,by omega,bZ,bG⟩,by dsimp only;omega⟩⟩;rw[z1,z6,z6] at c4;have vJ:=Z1w hds (show 0<=(i:Int)+(w:Int) by omega);have kT:=Int.tmod_nonneg 3 vJ.1;have uM:=Int.tmod_lt_of_pos (Et ds ((i:Int)+(w:Int))) (show (0:Int)<3 by omega);generalize Int.tmod (Et ds ((i:Int)+(w:Int))) 3=m at *
   obtain⟨mn,rfl⟩:=zm kT;rw[Q9r];refine⟨by omega,by omega,by omega,by omega,by simp only[zr,List.length_nil];omega,by rw[Qm];omega,⟨nk,by omega,hds⟩,by omega,by rw[Qm];omega,by rw[Qm];omega,(s2++[((i:Int),((w:Int),(C.getD i []).getD w 0==120))],(w:Int)+(1+(mn:Int))),(by and_intros<;>first|rfl|trivial|simp),⟨w+(1+mn),by dsimp only;omega,by simp;omega,λs pJ=>?_,by omega⟩,by dsimp only;omega⟩;rcases xh.1 pJ with h3|h3
   .exact bG s h3
   .rw[zx.1 h3];refine⟨by dsimp only;omega,by dsimp only;omega,by dsimp only;omega,by dsimp only;omega,?_⟩;dsimp only;rw[z7,z7]
  .dsimp only;have rR:=rR ss (by omega) hs;have hZ:=Z2v (hk:=H) (lw:=W) (hd:=H) (rows:=R) (ss:=ss) (by omega) (by omega) (by omega);generalize Lf H W H R ss=Z at *
   refine LoopP.count2 Z.length (λk x=>x=(Z.take k).any (λy=>y==swD d.1 p)) rfl (λk x aB hx q hq=>?_);subst hx;dsimp only;simp only[z7];refine⟨λc=>?_,λc=>⟨by omega,?_⟩⟩
   .have c:k<Z.length:=by omega
    have hq:=hq _ c rfl;rw[QO c,List.any_append,<-Qf (d:=(0,(0,(0,(0,false))))) c] at hq;refine⟨λ_=>by omega,λ_=>by omega,by rw[Qm];omega,_,?_,hq⟩;simp only[List.any_cons,List.any_nil,xy];exact(by and_intros<;>first|rfl|trivial|simp)
   .have c:k=Z.length:=by omega
    rw[c,List.take_length,<-rR];rw[Bool.eq_iff_iff,xx,z6];constructor
    .rintro⟨x,hx,hb⟩
     rwa [eq_of_beq hb] at hx
    .intro hx;exact⟨_,hx,beq_self_eq_true _⟩
theorem Z3q {l:List Int}(h:KWf (.list (.i .u8)) l):u8s l:=λx hx=>(Q5u x).1 (h.2 x hx)
theorem Z43 {l:List Int}(h:KWf (.list (.i .u16)) l):J1z l:=λx hx=>(Z4o x).1 (h.2 x hx)
theorem Z6b {x:Int×List Int×List Int×List Int}(h:KWf (.pair (.i .u8) (.pair (.list (.i .u8)) (.pair (.list (.i .u16)) (.list (.i .u8))))) x):bOk x.1 x.2.1 x.2.2.1 x.2.2.2:=by obtain⟨h1,h2,h3,h4⟩:=h;have h1:=(Q5u x.1).1 h1;exact⟨h1.1,h1.2,Z3q h2,Z43 h3,Z3q h4⟩
theorem swpPre_of {x:(Int×List Int×List Int×List Int)×Int×Bool}(h:AWf [.pair (.i .u8) (.pair (.list (.i .u8)) (.pair (.list (.i .u16)) (.list (.i .u8)))),.i .u8,.bo] x):bOk x.1.1 x.1.2.1 x.1.2.2.1 x.1.2.2.2/\0<=x.2.1/\x.2.1<=255/\x.1.2.2.2.length<=9223372036854775807:=by obtain⟨h1,h2,h3⟩:=h;have h2:=(Q5u x.2.1).1 h2;exact⟨Z6b h1,h2.1,h2.2,h1.2.2.2.1⟩
end Go.Proofs.Tryz