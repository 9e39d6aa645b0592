/- A framework for walks, contracts of functions, and their proofs: part 9. -/
import Derived.Test.YtannmfpiibodeaaGreatDoorF8
set_option linter.unusedVariables false
set_option maxRecDepth 100000
namespace Go.Proofs.Tryz
open Go Go.V Go.Proofs
def Ao:AL (Unit):=.nil
def Lc (d:Unit):Prop:=True
def La (d:Unit):SV:=.val .bo true
def LL (d:Unit):List OB:=[]
def PQ:CSp:=XU Ao Lc La LL
abbrev CI:Prop:=OkC Tryz.prog 13 PQ
theorem AI:CI:=AB λ_ _ h=>Ou h
def RY:AL (Unit):=.nil
def Tk (d:Unit):Prop:=True
def Tn (d:Unit):SV:=.val .bo true
def Ty (d:Unit):List OB:=[]
def Bj:CSp:=XU RY Tk Tn Ty
abbrev RL:Prop:=OkC Tryz.prog 12 Bj
theorem Rw:RL:=AB λ_ _ h=>Ey h
def Sc:AL (Unit):=.nil
def TB (d:Unit):Prop:=True
def Tt (d:Unit):SV:=.val .bo true
def Tg (d:Unit):List OB:=[]
def DE:CSp:=XU Sc TB Tt Tg
abbrev TV:Prop:=OkC Tryz.prog 14 DE
theorem S8:TV:=AB λ_ _ h=>EX h
def Bc:AL (List Int):=(.one (.k (.list (.i .i64))))
def Rn (d:List Int):Prop:=d.length<=1000
def GK (d:List Int):SV:=.lst 0
def GO (d:List Int):List OB:=[.lst 3 (.i .i64) d false]
def Vo:CSp:=XU Bc Rn GK GO
def Kl (l:List Int):Prop :=
 (((List.length ([]:List Int))+(List.length l))*8<=70368744177664)/\(True/\(((([]:List Int)++l)=l/\((List.isEmpty l)&&false)=false)/\True))
def DT:Cx:=⟨[(3,(.i .i64))],[],6,[],0,[],[],[],[],false,[],[],[],[]⟩
def LG (l:List Int):List (Nat×LoopAnn):=[]
theorem LD (d:List Int):gwp (DT) (LG d) c17 0 (YI [.tmp 2] (GK d) (GO d)) (Qv 6 (AL.can Bc d))=Kl d:=by kernel_rfl
abbrev Ls:Prop:=OkC Tryz.prog 17 Vo
theorem SQ (h:∀ (l:List Int),(l.length<=1000)->Kl l):OkC Tryz.prog 17 Vo :=
 QB Z2b mixed (C:=DT) (V:=λ(d:List Int)=>Kl d) ⟨.nil,XsOk.nil,ItsOk.nil,YlOk.nil,IysOk.nil,XfOk.nil⟩ (LD) λd hp=>h d hp
theorem DS:Ls:=SQ λl h=>by
 (unfold Kl;(try delta lI gD sT I64 Q2 pj8 pj4);simp);omega
def HE:AL (Int×List Int):=(.one (.agg (.cons (.k (.i .i64)) (.one (.k (.list (.i .i64)))))))
def Lv (d:Int×List Int):Prop:=d.2.length<=1000
def DV (d:Int×List Int):SV:=.agg [.val (.i .i64) d.1,.lst 0]
def Bh (d:Int×List Int):List OB:=[.lst 3 (.i .i64) d.2 false]
def UA:CSp:=XU HE Lv DV Bh
def Vt (hd:Int) (rows:List Int):Prop :=
 (rows.length<=1000)/\(false=true->rows=[])/\((hd=hd/\True/\(([]:List SV)=[]))/\((rows=rows/\false=false)/\True))
def Hm:Cx:=⟨[],[(17,Vo)],9,[],0,[],[],[],[],false,[],[],[],[]⟩
def CY (hd:Int) (rows:List Int):List (Nat×LoopAnn):=[]
theorem AQ (d:Int×List Int):gwp (Hm) (CY d.1 d.2) c5 0 (YI [.cell 2 true 2] (DV d) (Bh d)) (Qv 9 (AL.can HE d))=Vt d.1 d.2:=by kernel_rfl
abbrev Ak:Prop:=OkC Tryz.prog 5 UA
theorem Ag (h:∀ (hd:Int) (rows:List Int),(rows.length<=1000)->Vt hd rows):OkC Tryz.prog 5 UA :=
 QB Z5u mixed (C:=Hm) (V:=λ(d:Int×List Int)=>Vt d.1 d.2) ⟨(.cons DS .nil),XsOk.nil,ItsOk.nil,YlOk.nil,IysOk.nil,XfOk.nil⟩ (AQ) λd hp=>h d.1 d.2 hp
theorem HI:Ak:=Ag λhd rows h=>by simp[Vt,h]
def DD:AL (Int×List Int):=(.one (.agg (.cons (.k (.i .i64)) (.one (.k (.list (.i .i64)))))))
def R9 (d:Int×List Int):Prop:=d.2.length<=1000
def GI (d:Int×List Int):SV:=.agg [.val (.i .i64) d.1,.lst 0]
def Gf (d:Int×List Int):List OB:=[.lst 3 (.i .i64) d.2 false]
def Vk:CSp:=XU DD R9 GI Gf
def Kf (hk:Int) (lw:List Int):Prop :=
 (lw.length<=1000)/\(false=true->lw=[])/\((hk=hk/\True/\(([]:List SV)=[]))/\((lw=lw/\false=false)/\True))
def Bd:Cx:=⟨[],[(17,Vo)],9,[],0,[],[],[],[],false,[],[],[],[]⟩
def Ld (hk:Int) (lw:List Int):List (Nat×LoopAnn):=[]
theorem L5 (d:Int×List Int):gwp (Bd) (Ld d.1 d.2) c11 0 (YI [.cell 2 true 2] (GI d) (Gf d)) (Qv 9 (AL.can DD d))=Kf d.1 d.2:=by kernel_rfl
abbrev SW:Prop:=OkC Tryz.prog 11 Vk
theorem LS (h:∀ (hk:Int) (lw:List Int),(lw.length<=1000)->Kf hk lw):OkC Tryz.prog 11 Vk :=
 QB Z09 mixed (C:=Bd) (V:=λ(d:Int×List Int)=>Kf d.1 d.2) ⟨(.cons DS .nil),XsOk.nil,ItsOk.nil,YlOk.nil,IysOk.nil,XfOk.nil⟩ (L5) λd hp=>h d.1 d.2 hp
theorem B5:SW:=LS λhk lw h=>by simp[Kf,h]
def YJ:AL (Int×List Int×List Int×List Int):=(.one (.agg (.cons (.k (.i .u8)) (.cons (.k (.list (.i .u8))) (.cons (.k (.list (.i .u16))) (.one (.k (.list (.i .u8)))))))))
def NL (d:Int×List Int×List Int×List Int):Prop:=bOk d.1 d.2.1 d.2.2.1 d.2.2.2
def YD (d:Int×List Int×List Int×List Int):SV:=.agg [.val (.i .i64) (hkN 12 d.1),.lst 0]
def Yt (d:Int×List Int×List Int×List Int):List OB:=[.lst 3 (.i .i64) (Qq (hkN 12 d.1) 30 d.2.1) false]
def Wd:CSp:=XU YJ NL YD Yt
def JH (h8:Int) (ws:List Int) (rs:List Int) (ds:List Int):Prop :=
 (I64 h8)/\((12:Int)≠0)/\(I64 ((1:Int)+(Int.tmod h8 (12:Int))))/\∃ (e4:Unit) (d40:(List Int)×Int),((True/\True/\True/\(0:Int)=d40.2/\True)/\((h8=h8/\ws=ws/\rs=rs/\ds=ds/\(([]:List SV)=[]))/\((0:Int)=(0:Int)/\True/\(([]:List SV)=[]))/\(((1:Int)+(Int.tmod h8 (12:Int)))=((1:Int)+(Int.tmod h8 (12:Int)))/\True/\(([]:List SV)=[]))/\(d40.1=[]/\(List.isEmpty d40.1)=true)/\True)) /\
 LoopP (λ(d4:(List Int)×Int) (q4:((List Int)×Int)->Prop) =>
  (((d4.2==(0:Int))||((decide (d4.2<(lI ws)))&&(decide (d4.2<(30:Int)))))=true ->
   ((decide (d4.2<(lI ws)))=true ->
    (0<=d4.2)/\(d4.2<(List.length ws))/\(I64 (gD ws d4.2 0))/\(((1:Int)+(Int.tmod h8 (12:Int)))≠0)/\(((List.length d4.1)+(List.length [(Int.tmod (gD ws d4.2 0) ((1:Int)+(Int.tmod h8 (12:Int))))]))*8<=70368744177664)/\(I64 (d4.2+(1:Int)))/\(∃ d5:(List Int)×Int,((True/\True/\True/\(d4.2+(1:Int))=d5.2/\True)/\((h8=h8/\ws=ws/\rs=rs/\ds=ds/\(([]:List SV)=[]))/\((0:Int)=(0:Int)/\True/\(([]:List SV)=[]))/\(((1:Int)+(Int.tmod h8 (12:Int)))=((1:Int)+(Int.tmod h8 (12:Int)))/\True/\(([]:List SV)=[]))/\((d4.1++[(Int.tmod (gD ws d4.2 0) ((1:Int)+(Int.tmod h8 (12:Int))))])=d5.1/\false=(List.isEmpty d5.1))/\True))/\q4 d5)) /\
   ((decide (d4.2<(lI ws)))=false ->
    (((List.length d4.1)+(List.length [(0:Int)]))*8<=70368744177664)/\(I64 (d4.2+(1:Int)))/\(∃ d6:(List Int)×Int,((True/\True/\True/\(d4.2+(1:Int))=d6.2/\True)/\((h8=h8/\ws=ws/\rs=rs/\ds=ds/\(([]:List SV)=[]))/\((0:Int)=(0:Int)/\True/\(([]:List SV)=[]))/\(((1:Int)+(Int.tmod h8 (12:Int)))=((1:Int)+(Int.tmod h8 (12:Int)))/\True/\(([]:List SV)=[]))/\((d4.1++[(0:Int)])=d6.1/\false=(List.isEmpty d6.1))/\True))/\q4 d6))) /\
  (((d4.2==(0:Int))||((decide (d4.2<(lI ws)))&&(decide (d4.2<(30:Int)))))=false ->
   ((((1:Int)+(Int.tmod h8 (12:Int)))=(hkN 12 h8)/\True/\(([]:List SV)=[]))/\((d4.1=(Qq (hkN 12 h8) 30 ws)/\(List.isEmpty d4.1)=false)/\True)))) d40
def YZ:Cx:=⟨[(3,(.i .i64))],[],48,[],0,[],[],[],[],false,[],[],[],[]⟩
def MB (h8:Int) (ws:List Int) (rs:List Int) (ds:List Int):List (Nat×LoopAnn):=[(0,⟨Unit,(List Int)×Int,[1,2,3,4],λe x=>[.box 1 0,.box 2 0,.box 3 0,.val (.i .i64) x.2],λe x=>[(1,.slot 1,.cells [.val (.i .u8) h8,.val (.list (.i .u8)) ws,.val (.list (.i .u16)) rs,.val (.list (.i .u8)) ds] (some 25)),(2,.slot 2,.cells [.val (.i .i64) (0:Int),.nilS] (some 29)),(3,.slot 3,.cells [.val (.i .i64) ((1:Int)+(Int.tmod h8 (12:Int))),.lst 45] (some 29)),(45,.cell 3 1,.lst 3 (.i .i64) x.1 (List.isEmpty x.1))]⟩)]
theorem Mx (d:Int×List Int×List Int×List Int):gwp (YZ) (MB d.1 d.2.1 d.2.2.1 d.2.2.2) c15 0 (YI [.cell 2 true 2] (YD d) (Yt d)) (Qv 48 (AL.can YJ d))=JH d.1 d.2.1 d.2.2.1 d.2.2.2:=by kernel_rfl
abbrev MN:Prop:=OkC Tryz.prog 15 Wd
theorem My (h:∀ (h8:Int) (ws:List Int) (rs:List Int) (ds:List Int),(bOk h8 ws rs ds)->JH h8 ws rs ds):OkC Tryz.prog 15 Wd :=
 QB Q9h mixed (C:=YZ) (V:=λ(d:Int×List Int×List Int×List Int)=>JH d.1 d.2.1 d.2.2.1 d.2.2.2) ⟨.nil,XsOk.nil,ItsOk.nil,YlOk.nil,IysOk.nil,XfOk.nil⟩ (Mx) λd hp=>h d.1 d.2.1 d.2.2.1 d.2.2.2 hp
theorem Rr {m h8:Int}(hm:0<m) (h:0<=h8):1<=hkN m h8/\hkN m h8<=m:=by have h1:=Int.tmod_nonneg m h;have h2:=Int.tmod_lt_of_pos h8 hm;simp only[hkN];omega
theorem Ci {hk:Int}{cap:Nat}{ws:List Int}:(Qq hk cap ws).length=if ws=[] then 1 else min cap ws.length:=by unfold Qq;split<;>simp
theorem OL {hk:Int}{cap:Nat}{ws:List Int}{i:Nat}(h:i<ws.length) (hc:i<cap):(Qq hk cap ws)[i]?=some (Int.tmod (ws.getD i 0) hk):=by
 have aK:ws≠[]:=by rintro rfl;simp at h
 unfold Qq;rw[z6 aK];simp[hc,h]
theorem MA:MN:=My λh8 ws rs ds h=>by
 obtain⟨h1,h2,oG,oH,hds⟩:=h;have hk:=Rr (m:=12) (by omega) h1;have e:(1+Int.tmod h8 12)=hkN 12 h8:=rfl;have hk:1<=hkN 12 h8/\hkN 12 h8<=12:=hk;unfold JH;(try delta lI gD sT I64 Q2 pj8 pj4);simp only[true_and,and_true,exists_const,zf,zy,ne_eq,QD,e];refine⟨by omega,by omega,by omega,([],0),⟨rfl,rfl,rfl⟩,?_⟩;have hN:(Qq (hkN 12 h8) 30 ws).length=if ws=[] then 1 else min 30 ws.length:=Ci
 have aj:∀ k:Nat,(((k:Int)==0)||(decide ((k:Int)<ws.length)&&decide ((k:Int)<30)))=decide (k<(Qq (hkN 12 h8) 30 ws).length):=λk=>by
  rw[hN];by_cases hz:ws=[]
  .subst hz;cases k<;>simp;omega
  .have:0<ws.length:=xm.2 hz;rw[z6 hz];cases k with
   |zero=>simp;omega
   |succ k =>rw[Bool.eq_iff_iff];simp;omega
 have qA:(Qq (hkN 12 h8) 30 ws).length<=30:=by rw[hN];split<;>omega
 refine LoopP.count2 (Qq (hkN 12 h8) 30 ws).length (λk xs=>xs=(Qq (hkN 12 h8) 30 ws).take k) (by simp) λk xs hk hJ q hq=>?_;dsimp only;rw[aj];simp only[zf,zy,zg,Int.ofNat_lt];refine⟨λal=>⟨λhw=>?_,λhw=>?_⟩,λbI=>?_⟩
 .have hw:k<ws.length:=by omega
  have uL:=oG _ (zk hw);have qB:k<30:=by omega
  simp only[Qj hw,zT];have hv:(Qq (hkN 12 h8) 30 ws)[k]=Int.tmod ws[k] (hkN 12 h8):=by have:=OL (hk:=hkN 12 h8) hw qB;rw[Qj hw] at this;have h3:=z8 al;exact osj (h3.symm.trans this)
  refine⟨by omega,by omega,by omega,by omega,by rw[hJ,xM];omega,by omega,(xs++[Int.tmod ws[k] (hkN 12 h8)],(k:Int)+1),⟨rfl,rfl,by simp⟩,hq _ al ?_⟩;rw[ZI al,<-hJ,hv]
 .have hz:ws=[]:=by
   cases oG:ws with
   |nil=>rfl
   |cons a l =>
    exfalso;rw[hN] at al;have:ws≠[]:=by rw[oG];simp
    rw[z6 this] at al;omega
  have gG:k=0:=by rw[hN,z7 hz] at al;omega
  subst gG;simp only[zT];refine⟨by rw[hJ,xM];omega,by omega,(xs++[0],1),⟨rfl,rfl,by simp⟩,hq _ al ?_⟩;rw[ZI al,<-hJ];simp[Qq,hz]
 .have:k=(Qq (hkN 12 h8) 30 ws).length:=by omega
  subst this;rw[List.take_length] at hJ;subst hJ;refine⟨rfl,?_⟩;rw[List.isEmpty_eq_false_iff];intro hz;rw[hz] at hN;split at hN
  .cases hN
  .rename_i aK;have:=xm.2 aK;simp only[List.length_nil] at hN;omega
def Ks:AL (Int×List Int×List Int×List Int):=(.one (.agg (.cons (.k (.i .u8)) (.cons (.k (.list (.i .u8))) (.cons (.k (.list (.i .u16))) (.one (.k (.list (.i .u8)))))))))
def ME (d:Int×List Int×List Int×List Int):Prop:=bOk d.1 d.2.1 d.2.2.1 d.2.2.2
def YT (d:Int×List Int×List Int×List Int):SV:=.agg [.val (.i .i64) (hkN 12 d.1),.lst 0]
def YU (d:Int×List Int×List Int×List Int):List OB:=[.lst 3 (.i .i64) (Q7 (hkN 12 d.1) 10 d.2.2.1) false]
def WA:CSp:=XU Ks ME YT YU
def JM (h8:Int) (ws:List Int) (rs:List Int) (ds:List Int):Prop :=
 (I64 h8)/\((12:Int)≠0)/\(I64 ((1:Int)+(Int.tmod h8 (12:Int))))/\∃ (e4:Unit) (d40:(List Int)×Int),((True/\True/\True/\(0:Int)=d40.2/\True)/\((h8=h8/\ws=ws/\rs=rs/\ds=ds/\(([]:List SV)=[]))/\((0:Int)=(0:Int)/\True/\(([]:List SV)=[]))/\(((1:Int)+(Int.tmod h8 (12:Int)))=((1:Int)+(Int.tmod h8 (12:Int)))/\True/\(([]:List SV)=[]))/\(d40.1=[]/\(List.isEmpty d40.1)=true)/\True)) /\
 LoopP (λ(d4:(List Int)×Int) (q4:((List Int)×Int)->Prop) =>
  (((d4.2==(0:Int))||((decide (d4.2<(lI rs)))&&(decide (d4.2<(10:Int)))))=true ->
   ((decide (d4.2<(lI rs)))=true ->
    (0<=d4.2)/\(d4.2<(List.length rs))/\(I64 (gD rs d4.2 0))/\(InK .u64 ((1:Int)+(Int.tmod h8 (12:Int))))/\(0<=((1:Int)+(Int.tmod h8 (12:Int))))/\(I64 (WX .i64 (1:Int) ((1:Int)+(Int.tmod h8 (12:Int)))))/\(I64 ((WX .i64 (1:Int) ((1:Int)+(Int.tmod h8 (12:Int))))-(1:Int)))/\(((List.length d4.1)+(List.length [(Q1 .and .i64 (gD rs d4.2 0) ((WX .i64 (1:Int) ((1:Int)+(Int.tmod h8 (12:Int))))-(1:Int)))]))*8<=70368744177664)/\(I64 (d4.2+(1:Int)))/\(∃ d5:(List Int)×Int,((True/\True/\True/\(d4.2+(1:Int))=d5.2/\True)/\((h8=h8/\ws=ws/\rs=rs/\ds=ds/\(([]:List SV)=[]))/\((0:Int)=(0:Int)/\True/\(([]:List SV)=[]))/\(((1:Int)+(Int.tmod h8 (12:Int)))=((1:Int)+(Int.tmod h8 (12:Int)))/\True/\(([]:List SV)=[]))/\((d4.1++[(Q1 .and .i64 (gD rs d4.2 0) ((WX .i64 (1:Int) ((1:Int)+(Int.tmod h8 (12:Int))))-(1:Int)))])=d5.1/\false=(List.isEmpty d5.1))/\True))/\q4 d5)) /\
   ((decide (d4.2<(lI rs)))=false ->
    (InK .u64 ((1:Int)+(Int.tmod h8 (12:Int))))/\(0<=((1:Int)+(Int.tmod h8 (12:Int))))/\(I64 (WX .i64 (1:Int) ((1:Int)+(Int.tmod h8 (12:Int)))))/\(I64 ((WX .i64 (1:Int) ((1:Int)+(Int.tmod h8 (12:Int))))-(1:Int)))/\(((List.length d4.1)+(List.length [(Q1 .and .i64 (21:Int) ((WX .i64 (1:Int) ((1:Int)+(Int.tmod h8 (12:Int))))-(1:Int)))]))*8<=70368744177664)/\(I64 (d4.2+(1:Int)))/\(∃ d6:(List Int)×Int,((True/\True/\True/\(d4.2+(1:Int))=d6.2/\True)/\((h8=h8/\ws=ws/\rs=rs/\ds=ds/\(([]:List SV)=[]))/\((0:Int)=(0:Int)/\True/\(([]:List SV)=[]))/\(((1:Int)+(Int.tmod h8 (12:Int)))=((1:Int)+(Int.tmod h8 (12:Int)))/\True/\(([]:List SV)=[]))/\((d4.1++[(Q1 .and .i64 (21:Int) ((WX .i64 (1:Int) ((1:Int)+(Int.tmod h8 (12:Int))))-(1:Int)))])=d6.1/\false=(List.isEmpty d6.1))/\True))/\q4 d6))) /\
  (((d4.2==(0:Int))||((decide (d4.2<(lI rs)))&&(decide (d4.2<(10:Int)))))=false ->
   ((((1:Int)+(Int.tmod h8 (12:Int)))=(hkN 12 h8)/\True/\(([]:List SV)=[]))/\((d4.1=(Q7 (hkN 12 h8) 10 rs)/\(List.isEmpty d4.1)=false)/\True)))) d40
def KJ:Cx:=⟨[(3,(.i .i64))],[],51,[],0,[],[],[],[],false,[],[],[],[]⟩
def Gn (h8:Int) (ws:List Int) (rs:List Int) (ds:List Int):List (Nat×LoopAnn):=[(0,⟨Unit,(List Int)×Int,[1,2,3,4],λe x=>[.box 1 0,.box 2 0,.box 3 0,.val (.i .i64) x.2],λe x=>[(1,.slot 1,.cells [.val (.i .u8) h8,.val (.list (.i .u8)) ws,.val (.list (.i .u16)) rs,.val (.list (.i .u8)) ds] (some 25)),(2,.slot 2,.cells [.val (.i .i64) (0:Int),.nilS] (some 31)),(3,.slot 3,.cells [.val (.i .i64) ((1:Int)+(Int.tmod h8 (12:Int))),.lst 48] (some 31)),(48,.cell 3 1,.lst 3 (.i .i64) x.1 (List.isEmpty x.1))]⟩)]
theorem MT (d:Int×List Int×List Int×List Int):gwp (KJ) (Gn d.1 d.2.1 d.2.2.1 d.2.2.2) c16 0 (YI [.cell 2 true 2] (YT d) (YU d)) (Qv 51 (AL.can Ks d))=JM d.1 d.2.1 d.2.2.1 d.2.2.2:=by kernel_rfl
abbrev D4:Prop:=OkC Tryz.prog 16 WA
theorem Gw (h:∀ (h8:Int) (ws:List Int) (rs:List Int) (ds:List Int),(bOk h8 ws rs ds)->JM h8 ws rs ds):OkC Tryz.prog 16 WA :=
 QB Q9z mixed (C:=KJ) (V:=λ(d:Int×List Int×List Int×List Int)=>JM d.1 d.2.1 d.2.2.1 d.2.2.2) ⟨.nil,XsOk.nil,ItsOk.nil,YlOk.nil,IysOk.nil,XfOk.nil⟩ (MT) λd hp=>h d.1 d.2.1 d.2.2.1 d.2.2.2 hp
theorem Q5z {x h:Int}(h0:0<=x) (h1:x<9223372036854775808) (a:1<=h) (b:h<=24):Q1 .and .i64 x (WX .i64 1 h-1)=x % 2 ^ h.toNat:=by
 obtain⟨n,rfl⟩:=zu h0;obtain⟨m,rfl⟩:=zu (show 0<=h by omega);have hp:=Ng a b;rw[I5 (by omega) (by omega)];simp only[zg] at hp |-;have e2:((2:Int) ^ m)=((2 ^ m:Nat):Int):=by rw[Int.natCast_pow];rfl
 rw[e2] at hp |-;have e:(((2 ^ m:Nat):Int)-1)=((2 ^ m-1:Nat):Int):=by omega
 rw[e,CW (by omega) (by omega),Nat.and_two_pow_sub_one_eq_mod];rfl
theorem Et {hk:Int}{cap:Nat}{rs:List Int}:(Q7 hk cap rs).length=if rs=[] then 1 else min cap rs.length:=by unfold Q7;split<;>simp
theorem Q1l {hk:Int}{cap:Nat}{rs:List Int}{i:Nat}(h:i<rs.length) (hc:i<cap):(Q7 hk cap rs)[i]?=some (rs.getD i 0 % 2 ^ hk.toNat):=by
 have aK:rs≠[]:=by rintro rfl;simp at h
 unfold Q7;rw[z6 aK];simp[hc,h]
theorem GP:D4:=Gw λh8 ws rs ds h=>by
 obtain⟨h1,h2,oG,oH,hds⟩:=h;have hk:1<=hkN 12 h8/\hkN 12 h8<=12:=Rr (m:=12) (by omega) h1;have e:(1+Int.tmod h8 12)=hkN 12 h8:=rfl;have hp:=Ng hk.1 (show hkN 12 h8<=24 by omega);have hs:=I5 (show 0<=hkN 12 h8 by omega) (show hkN 12 h8<=62 by omega);have hm:∀ x,0<=x->x<9223372036854775808->Q1 .and .i64 x (2 ^ (hkN 12 h8).toNat-1)=x % 2 ^ (hkN 12 h8).toNat:=λx a b=>by
  have:=Q5z a b hk.1 (show hkN 12 h8<=24 by omega)
  rwa [hs] at this
 have hu:InK .u64 (hkN 12 h8):=⟨by show (0:Int)<=_;omega,by show _<=(18446744073709551615:Int);omega⟩;unfold JM;(try delta lI gD sT I64 Q2 pj8 pj4);simp only[true_and,and_true,exists_const,zf,zy,ne_eq,QD,e,hs,hu];refine⟨by omega,by omega,by omega,([],0),⟨rfl,rfl,rfl⟩,?_⟩;have hN:(Q7 (hkN 12 h8) 10 rs).length=if rs=[] then 1 else min 10 rs.length:=Et
 have aj:∀ k:Nat,(((k:Int)==0)||(decide ((k:Int)<rs.length)&&decide ((k:Int)<10)))=decide (k<(Q7 (hkN 12 h8) 10 rs).length):=λk=>by
  rw[hN];by_cases hz:rs=[]
  .subst hz;cases k<;>simp;omega
  .have:0<rs.length:=xm.2 hz;rw[z6 hz];cases k with
   |zero=>simp;omega
   |succ k =>rw[Bool.eq_iff_iff];simp;omega
 have qA:(Q7 (hkN 12 h8) 10 rs).length<=10:=by rw[hN];split<;>omega
 refine LoopP.count2 (Q7 (hkN 12 h8) 10 rs).length (λk xs=>xs=(Q7 (hkN 12 h8) 10 rs).take k) (by simp) λk xs lO hJ q hq=>?_;dsimp only;rw[aj];simp only[zf,zy,zg,Int.ofNat_lt];refine⟨λal=>⟨λhw=>?_,λhw=>?_⟩,λbI=>?_⟩
 .have hw:k<rs.length:=by omega
  have uM:=oH _ (zk hw);have qC:k<10:=by omega
  simp only[Qj hw,zT];have hv:(Q7 (hkN 12 h8) 10 rs)[k]=rs[k] % 2 ^ (hkN 12 h8).toNat:=by have:=Q1l (hk:=hkN 12 h8) hw qC;rw[Qj hw] at this;have h3:=z8 al;exact osj (h3.symm.trans this)
  rw[hm _ (by omega) (by omega)];refine⟨by omega,by omega,by omega,by omega,by omega,by omega,by rw[hJ,xM];omega,by omega,(xs++[rs[k] % 2 ^ (hkN 12 h8).toNat],(k:Int)+1),⟨rfl,rfl,by simp⟩,hq _ al ?_⟩;rw[ZI al,<-hJ,hv]
 .have hz:rs=[]:=by
   cases oH:rs with
   |nil=>rfl
   |cons a l =>
    exfalso;rw[hN] at al;have:rs≠[]:=by rw[oH];simp
    rw[z6 this] at al;omega
  have gG:k=0:=by rw[hN,z7 hz] at al;omega
  subst gG;simp only[zT];rw[hm _ (by omega) (by omega)];refine⟨by omega,by omega,by omega,by rw[hJ,xM];omega,by omega,(xs++[21 % 2 ^ (hkN 12 h8).toNat],1),⟨rfl,rfl,by simp⟩,hq _ al ?_⟩;rw[ZI al,<-hJ];simp[Q7,hz]
 .have:k=(Q7 (hkN 12 h8) 10 rs).length:=by omega
  subst this;rw[List.take_length] at hJ;subst hJ;refine⟨rfl,?_⟩;rw[List.isEmpty_eq_false_iff];intro hz;rw[hz] at hN;split at hN
  .cases hN
  .rename_i aK;have:=xm.2 aK;simp only[List.length_nil] at hN;omega
def VF:AL (Int×List Int×List Int×List Int):=(.one (.agg (.cons (.k (.i .u8)) (.cons (.k (.list (.i .u8))) (.cons (.k (.list (.i .u16))) (.one (.k (.list (.i .u8)))))))))
def Dl (d:Int×List Int×List Int×List Int):Prop:=bOk d.1 d.2.1 d.2.2.1 d.2.2.2
def Vc (d:Int×List Int×List Int×List Int):SV:=.agg [.val (.i .i64) (hkN 12 d.1),.lst 0,.val (.i .i64) (hkN 12 d.1),.lst 1]
def K_ (d:Int×List Int×List Int×List Int):List OB:=[.lst 3 (.i .i64) (Qq (hkN 12 d.1) 30 d.2.1) false,.lst 3 (.i .i64) (Q7 (hkN 12 d.1) 10 d.2.2.1) false]
def Yu:CSp:=XU VF Dl Vc K_
def Xo (h8:Int) (ws:List Int) (rs:List Int) (ds:List Int):Prop :=
 (bOk h8 ws rs ds)/\(false=true->(Qq (hkN 12 h8) 30 ws)=[])/\(bOk h8 ws rs ds)/\(((hkN 12 h8)=(hkN 12 h8)/\True/\(hkN 12 h8)=(hkN 12 h8)/\True/\(([]:List SV)=[]))/\(((Qq (hkN 12 h8) 30 ws)=(Qq (hkN 12 h8) 30 ws)/\false=false)/\((Q7 (hkN 12 h8) 10 rs)=(Q7 (hkN 12 h8) 10 rs)/\false=false)/\True))
def VN:Cx:=⟨[],[(15,Wd),(16,WA)],8,[],0,[],[],[],[],false,[],[],[],[]⟩
def Bn (h8:Int) (ws:List Int) (rs:List Int) (ds:List Int):List (Nat×LoopAnn):=[]
theorem BA (d:Int×List Int×List Int×List Int):gwp (VN) (Bn d.1 d.2.1 d.2.2.1 d.2.2.2) c4 0 (YI [.cell 2 true 4] (Vc d) (K_ d)) (Qv 8 (AL.can VF d))=Xo d.1 d.2.1 d.2.2.1 d.2.2.2:=by kernel_rfl
abbrev BN:Prop:=OkC Tryz.prog 4 Yu
theorem BC (h:∀ (h8:Int) (ws:List Int) (rs:List Int) (ds:List Int),(bOk h8 ws rs ds)->Xo h8 ws rs ds):OkC Tryz.prog 4 Yu :=
 QB Z57 mixed (C:=VN) (V:=λ(d:Int×List Int×List Int×List Int)=>Xo d.1 d.2.1 d.2.2.1 d.2.2.2) ⟨(.cons MA (.cons GP .nil)),XsOk.nil,ItsOk.nil,YlOk.nil,IysOk.nil,XfOk.nil⟩ (BA) λd hp=>h d.1 d.2.1 d.2.2.1 d.2.2.2 hp
theorem Bx:BN:=BC λh8 ws rs ds h=>by unfold Xo;(try delta lI gD sT I64 Q2 pj8 pj4);refine⟨h,(λh=>by cases h),h,?_⟩;and_intros<;>first|rfl|trivial
def DF:AL (Int×List Int×Int×List Int):=(.one (.agg (.cons (.k (.i .i64)) (.cons (.k (.list (.i .i64))) (.cons (.k (.i .i64)) (.one (.k (.list (.i .i64)))))))))
def R7 (d:Int×List Int×Int×List Int):Prop:=d.2.1.length<=1000/\d.2.2.2.length<=1000
def Gm (d:Int×List Int×Int×List Int):SV:=.agg [.val (.i .i64) d.1,.lst 0,.val (.i .i64) d.2.2.1,.lst 1]
def Ge (d:Int×List Int×Int×List Int):List OB:=[.lst 3 (.i .i64) d.2.1 false,.lst 3 (.i .i64) d.2.2.2 false]
def M5:CSp:=XU DF R7 Gm Ge
def Kg (hk:Int) (lw:List Int) (hd:Int) (rows:List Int):Prop :=
 (lw.length<=1000)/\(false=true->lw=[])/\(rows.length<=1000)/\((hk=hk/\True/\hd=hd/\True/\(([]:List SV)=[]))/\((lw=lw/\false=false)/\(rows=rows/\false=false)/\True))
def DQ:Cx:=⟨[],[(11,Vk),(5,UA)],10,[],0,[],[],[],[],false,[],[],[],[]⟩
def L8 (hk:Int) (lw:List Int) (hd:Int) (rows:List Int):List (Nat×LoopAnn):=[]
theorem LF (d:Int×List Int×Int×List Int):gwp (DQ) (L8 d.1 d.2.1 d.2.2.1 d.2.2.2) c8 0 (YI [.cell 2 true 4] (Gm d) (Ge d)) (Qv 10 (AL.can DF d))=Kg d.1 d.2.1 d.2.2.1 d.2.2.2:=by kernel_rfl
abbrev Lz:Prop:=OkC Tryz.prog 8 M5
theorem LI (h:∀ (hk:Int) (lw:List Int) (hd:Int) (rows:List Int),(lw.length<=1000/\rows.length<=1000)->Kg hk lw hd rows):OkC Tryz.prog 8 M5 :=
 QB Z5g mixed (C:=DQ) (V:=λ(d:Int×List Int×Int×List Int)=>Kg d.1 d.2.1 d.2.2.1 d.2.2.2) ⟨(.cons B5 (.cons HI .nil)),XsOk.nil,ItsOk.nil,YlOk.nil,IysOk.nil,XfOk.nil⟩ (LF) λd hp=>h d.1 d.2.1 d.2.2.1 d.2.2.2 hp
theorem SY:Lz:=LI λhk lw hd rows h=>by unfold Kg;(try delta lI gD sT I64 Q2 pj8 pj4);refine⟨h.1,(λh=>by cases h),h.2,?_⟩;and_intros<;>first|rfl|trivial
theorem Uz (lw:List Int) (row:Int):(Z6 lw row).length=lw.length:=by simp[Z6]
theorem Q0o (lw:List Int) (r:Int):Q2t (Z6 lw r)=true:=by simp only[Q2t,Z6,zh,zL];rintro b ⟨k,_,rfl⟩;cases r.toNat.testBit k.toNat<;>rfl
theorem NQ {lw:List Int}{r:Int}{w:Nat}(hw:w<lw.length):(Z6 lw r).getD w 0=if r.toNat.testBit (lw.getD w 0).toNat then 120 else 46:=by rw[Qj (by rw[Uz];exact hw),Qj hw];simp[Z6]
def Dn (lw:List Int):Nat->Nat
 |0=>0
 |k+1=>Dn lw k ||| (1 <<< (lw.getD k 0).toNat)
theorem Fi {lw:List Int}{b:Nat}(hp:∀ x∈lw,0<=x):∀ k,k<=lw.length->((Dn lw k).testBit b=true<->∃ w,w<k/\lw.getD w 0=b)
 |0,_=>by simp[Dn]
 |k+1,hk=>by
  have ih:=Fi (b:=b) hp k (by omega);have h0:=hp _ (Xc (show k<lw.length by omega));simp only[Dn];rw[Nat.testBit_or,zo,ih,Nat.one_shiftLeft,Nat.testBit_two_pow,zf];constructor
  .rintro (⟨w,h1,h2⟩|h1)
   .exact⟨w,by omega,h2⟩
   .exact⟨k,by omega,by omega⟩
  .rintro⟨w,h1,h2⟩;rcases Nat.lt_succ_iff_lt_or_eq.1 h1 with h1|rfl
   .exact .inl ⟨w,h1,h2⟩
   .exact .inr (by omega)
theorem Iy {lw:List Int}{n:Nat}(hp:∀ x∈lw,0<=x/\x<(n:Int)):∀ k,k<=lw.length->Dn lw k<2 ^ n
 |0,_=>Nat.two_pow_pos _
 |k+1,hk=>by have ih:=Iy hp k (by omega);have h0:=hp _ (Xc (show k<lw.length by omega));simp only[Dn];refine Nat.or_lt_two_pow ih ?_;rw[Nat.one_shiftLeft];exact Nat.pow_lt_pow_right (by omega) (by omega)
def F5 (W R:List Int):List Int:=R.map λr=>((r.toNat &&& Dn W W.length:Nat):Int)
theorem Ib (W:List Int) (r:Int):Lk W (Z6 W r)=none:=Cv.2 λw hw=>by rw[NQ hw,NQ (Au (Xc hw)),Q1x (Xc hw)]
theorem OA {W:List Int}(w3:∀ x∈W,0<=x) (r:Int):Z34 W (Z6 W r)=r.toNat &&& Dn W W.length:=by
 refine Nat.eq_of_testBit_eq λb=>?_;rw[Bool.eq_iff_iff,Z34,EE w3 b _ (zd _),Nat.testBit_and,z1,Fi w3 _ (zd _)];constructor
 .rintro⟨w,h1,h2,h3⟩;rw[NQ h1] at h3;refine⟨?_,w,h1,h2⟩;by_cases h:r.toNat.testBit (W.getD w 0).toNat=true
  .rwa [h2,zg] at h
  .rw[z6 h] at h3;exact absurd h3 (by decide)
 .rintro⟨h1,w,h2,h3⟩;exact⟨w,h2,h3,by rw[NQ h2,h3,zg,z7 h1]⟩
theorem Ig {W:List Int}(w3:∀ x∈W,0<=x) (R:List Int):Pz W (R.map (Z6 W))=F5 W R:=by unfold Pz F5;rw[wg];exact zZ λr _=>by simp only[Function.comp,OA w3]
theorem Q4z {x h:Int}(hx:0<=x/\x<4611686018427387904) (h0:0<=h/\h<=62):((Q1 .and .i64 (Q9 .i64 x h) 1)==1)=x.toNat.testBit h.toNat:=by
 obtain⟨n,rfl⟩:=zu hx.1;obtain⟨i,rfl⟩:=zu h0.1;have:Nat.min i 64=i:=xB (by omega);have e1:Q9 .i64 (n:Int) i=((n >>> i:Nat):Int):=by simp only[Q9,zg,IntKind.bits,this];rw[zE,Int.fdiv_eq_ediv_of_nonneg _ (Int.le_of_lt (Int.pow_pos (by omega)))];norm_cast
 have h1:n >>> i<=n:=by rw[zE];exact Nat.div_le_self _ _
 have e2:Q1 .and .i64 ((n >>> i:Nat):Int) 1=(((n >>> i) &&& 1:Nat):Int):=by
  generalize n >>> i=y at *
  have e:(BitVec.ofInt 64 ((y:Nat):Int) &&& BitVec.ofInt 64 ((1:Nat):Int)).toNat=y &&& 1:=by
   rw[BitVec.toNat_and,BitVec.toNat_ofInt,BitVec.toNat_ofInt];congr 1
   .omega
  have hle:y &&& 1<=1:=Nat.and_le_right;show IntKind.wrap .i64 ((BitVec.ofInt 64 ((y:Nat):Int) &&& BitVec.ofInt 64 ((1:Nat):Int)).toNat:Int)=_;rw[e];generalize y &&& 1=c at *
  simp[IntKind.wrap,IntKind.bits,IntKind.signed];omega
 rw[e1,e2,zg,zg,Nat.testBit];rw[Bool.eq_iff_iff];simp only[zF,bne_iff_ne,ne_eq];rw[Nat.and_comm,Nat.one_and_eq_mod_two];omega
theorem Q4o {h8:Int}{ws rs ds:List Int}(h:bOk h8 ws rs ds):(1<=hkN 12 h8/\hkN 12 h8<=12)/\(Qq (hkN 12 h8) 30 ws≠[]/\(Qq (hkN 12 h8) 30 ws).length<=30/\∀ x∈Qq (hkN 12 h8) 30 ws,0<=x/\x<hkN 12 h8) /\
  (Q7 (hkN 12 h8) 10 rs≠[]/\(Q7 (hkN 12 h8) 10 rs).length<=10/\∀ x∈Q7 (hkN 12 h8) 10 rs,0<=x/\x<2 ^ (hkN 12 h8).toNat):=by
 obtain⟨h1,h2,h3,h4,h5⟩:=h;have hk:=Rr (m:=12) (by omega) h1;refine⟨hk,⟨?_,?_,?_⟩,⟨?_,?_,?_⟩⟩
 .unfold Qq;split
  .simp
  .rename_i aK;simpa using aK
 .rw[Ci];split<;>omega
 .intro x hx;unfold Qq at hx;split at hx
  .rw[x6.1 hx];omega
  .simp only[zL] at hx;obtain⟨y,hy,rfl⟩:=hx;have:=h3 y (List.mem_of_mem_take hy);exact⟨Int.tmod_nonneg _ this.1,Int.tmod_lt_of_pos _ (by omega)⟩
 .unfold Q7;split
  .simp
  .rename_i aK;simpa using aK
 .rw[Et];split<;>omega
 .intro x hx;have hp:=Ng hk.1 (show hkN 12 h8<=24 by omega);unfold Q7 at hx;split at hx
  .rw[x6.1 hx];exact⟨Int.emod_nonneg _ (by omega),Int.emod_lt_of_pos _ (by omega)⟩
  .simp only[zL] at hx;obtain⟨y,_,rfl⟩:=hx;exact⟨Int.emod_nonneg _ (by omega),Int.emod_lt_of_pos _ (by omega)⟩
def XP (W:List Int) (h k:Nat):List Nat:=(List.range k).filter λw=>W.getD w 0==((h:Nat):Int)
theorem NO (W:List Int) (h k:Nat):XP W h (k+1)=XP W h k++(if W.getD k 0=((h:Nat):Int) then [k] else []):=by
 unfold XP;rw[List.range_succ,List.filter_append];congr 1;by_cases e:W.getD k 0=((h:Nat):Int)
 .rw[z7 e];simp only[wa,List.filter_nil,e,beq_self_eq_true,zr]
 .rw[z6 e];simp only[wa,List.filter_nil,xg.2 e];rfl
theorem PU (W:List Int) (h:Nat):∀ (m i:Nat),∃ r,XP W h (i+m)=XP W h i++r
 |0,i=>⟨[],by simp⟩
 |m+1,i=>by obtain⟨r,hr⟩:=PU W h m i;refine⟨r++(if W.getD (i+m) 0=((h:Nat):Int) then [i+m] else []),?_⟩;rw[<-zw,NO,hr,zU]
theorem Q30 {W:List Int}{h i n:Nat}(hi:i<n) (e:W.getD i 0=((h:Nat):Int)):(XP W h i).length<(XP W h n).length/\(XP W h n).getD (XP W h i).length 0=i:=by
 obtain⟨r,hr⟩:=PU W h (n-(i+1)) (i+1);rw[show i+1+(n-(i+1))=n by omega,NO,z7 e] at hr;rw[hr];constructor
 .simp only[zH,x9,List.length_nil];omega
 .rw[zU,ze,xc (by omega),xZ];rfl
def ptD (p h:Nat):Dmg:=(1,((p:Int),((h:Int),(0,false))))
def ptR (R:List Int) (p h:Nat):List Int:=R.set p (((R.getD p 0).toNat ^^^ 2 ^ h:Nat):Int)
theorem Z5f {W l:List Int}{k:Nat}(hk:k<l.length):(l.map (Z6 W)).getD k []=Z6 W (l.getD k 0):=by rw[Qj (by simpa using hk),xD,Qj hk]
theorem Q6n {hd:Int}{rows:List Int}(h2:1<=hd) (h3:hd<=24) (h5:rows.length<=60) (h4:1<=rows.length) (h6:∀ x∈rows,0<=x/\x<2 ^ hd.toNat):Qe hd rows=0:=by
 have e1:inI hd 1 24=true:=by simp[inI];omega
 have e2:(rows.any λx=>!inI x 0 (2 ^ hd.toNat-1))=false:=by
  rw[xi];intro x hx;have:=h6 x hx;have e3:inI x 0 (2 ^ hd.toNat-1)=true:=by unfold inI;simp only[z1,zf];omega
  rw[e3];simp
 unfold Qe;rw[z6 (by rw[e1];simp),z6 (by omega),z6 (by omega),z6 (by rw[e2];simp)]
theorem Z2p {hk:Int}{lw:List Int}(h1:1<=hk) (h2:hk<=24) (h3:lw.length<=96) (h4:1<=lw.length) (h5:∀ x∈lw,0<=x/\x<hk):Zp hk lw=0:=by
 have e1:inI hk 1 24=true:=by simp[inI];omega
 have e2:(lw.any λx=>!inI x 0 (hk-1))=false:=by
  rw[xi];intro x hx;have:=h5 x hx;have e3:inI x 0 (hk-1)=true:=by unfold inI;simp only[z1,zf];omega
  rw[e3];simp
 unfold Zp;rw[z6 (by rw[e1];simp),z6 (by omega),z6 (by omega),z6 (by rw[e2];simp)]
section
variable {H:Int}{W R:List Int}{p h:Nat}
theorem Z2f (hp:p<R.length) (hh:(h:Int)<H) (hw:1<=W.length):Ho H R W (ptD p h)=true:=by
 have h1:inI (p:Int) 0 ((R.length:Int)-1)=true:=by unfold inI;simp only[z1,zf];omega
 have h2:inI (h:Int) 0 (H-1)=true:=by unfold inI;simp only[z1,zf];omega
 have h3:inI (0:Int) 0 ((W.length:Int)-1)=true:=by unfold inI;simp only[z1,zf];omega
 unfold Ho ptD;simp only[h1,h2,h3];rfl
theorem Z1q (ht:Qb H W H R=0) (hp:p<R.length) (hr:R.length<=120) (hh:(h:Int)<H) (hw:1<=W.length):Qr H W H R [ptD p h] (R.length:Int)=0 :=
 Q6b ht (λz hz=>by rw[x6.1 hz];exact Z2f hp hh hw) (by simp) (by omega) (by omega)
theorem Q62:Ve W H R [ptD p h]=(ptR R p h).map (Z6 W):=rfl
theorem Q1d {α:Type}(l:List α) (d:α):((List.range l.length).map λi=>l.getD (i % l.length) d)=l:=by refine List.ext_getElem (by simp) λi h1 h2=>?_;rw[xD,List.getElem_range,xV h2,Qj h2]
theorem Ok (he:Qr H W H R [ptD p h] (R.length:Int)=0):Uu H W H R [ptD p h] (R.length:Int)=(ptR R p h).map (Z6 W)/\Uu H W H R [] (R.length:Int)=R.map (Z6 W):=by
 have h0:=Il he;constructor
 .unfold Uu;rw[z7 he];unfold Q4e;rw[Q62,zg];have:=Q1d ((ptR R p h).map (Z6 W)) [];rw[show ((ptR R p h).map (Z6 W)).length=R.length by simp[ptR]] at this |-;exact this
 .unfold Uu;rw[z7 h0];unfold Q4e;rw[show Ve W H R []=R.map (Z6 W) from rfl,zg];have:=Q1d (R.map (Z6 W)) [];rw[show (R.map (Z6 W)).length=R.length by simp] at this |-;exact this
theorem Z29 (w0:∀ x∈W,0<=x):Q3w p (Z6 W (((R.getD p 0).toNat ^^^ 2 ^ h:Nat):Int)) (Z6 W (R.getD p 0))=(XP W h W.length).map λ(w:Nat)=>((p:Int),((w:Int),((R.getD p 0).toNat ^^^ 2 ^ h).testBit h)):=by
 unfold Q3w XP;rw[Uz];have key:∀ w,w<W.length->((Z6 W (((R.getD p 0).toNat ^^^ 2 ^ h:Nat):Int)).getD w 0 != (Z6 W (R.getD p 0)).getD w 0)=(W.getD w 0==((h:Nat):Int)):=λw hw=>by
  rw[NQ hw,NQ hw,zg,Nat.testBit_xor,Nat.testBit_two_pow];have:=w0 _ (Xc hw);by_cases e:W.getD w 0=((h:Nat):Int)
  .have e2:h=(W.getD w 0).toNat:=by omega
   rw[<-e2,e];cases (R.getD p 0).toNat.testBit h<;>simp
  .have e2:¬ h=(W.getD w 0).toNat:=by omega
   simp only[e2,decide_false,Bool.xor_false];rw[xg.2 e];simp
 have e1:((List.range W.length).filter λ(w:Nat)=>(Z6 W (((R.getD p 0).toNat ^^^ 2 ^ h:Nat):Int)).getD w 0 != (Z6 W (R.getD p 0)).getD w 0)=(List.range W.length).filter λw=>W.getD w 0==((h:Nat):Int) :=
  List.filter_congr λw hw=>key w (x8.1 hw)
 rw[e1];refine zZ λw hw=>?_;obtain⟨iq,lL⟩:=xY.1 hw;have iq:=x8.1 iq;have lL:W.getD w 0=((h:Nat):Int):=eq_of_beq lL;rw[NQ iq,zg,lL,zg];congr 2;cases ((R.getD p 0).toNat ^^^ 2 ^ h).testBit h<;>rfl
theorem Q4j (he:Qr H W H R [ptD p h] (R.length:Int)=0) (hp:p<R.length) (w0:∀ x∈W,0<=x):RJ H W H R [ptD p h] (R.length:Int)=(XP W h W.length).map λ(w:Nat)=>((p:Int),((w:Int),((R.getD p 0).toNat ^^^ 2 ^ h).testBit h)):=by
 obtain⟨c1,c2⟩:=Ok he;have h0:=Il he;have e0:RJ H W H R [ptD p h] (R.length:Int)=Q91 (Uu H W H R [ptD p h] (R.length:Int)) (Uu H W H R [] (R.length:Int)):=by unfold RJ Uu;rw[z7 he,z7 he,z7 h0]
 rw[e0,c1,c2,<-Z29 (R:=R) (p:=p) (h:=h) w0];have hk:∀ k,k<R.length->Q3w k (((ptR R p h).map (Z6 W)).getD k []) ((R.map (Z6 W)).getD k [])=if k=p then Q3w p (Z6 W (((R.getD p 0).toNat ^^^ 2 ^ h:Nat):Int)) (Z6 W (R.getD p 0)) else []:=λk hk=>by
  rw[Z5f (by simpa [ptR] using hk),Z5f hk];unfold ptR;by_cases e:k=p
  .subst e;rw[z7 rfl,Qj (by simpa using hk),List.getElem_set_self]
  .rw[z6 e,Qj (by simpa using hk),List.getElem_set_ne (λx=>e x.symm),<-Qj (d:=0) hk,Q2j]
 have hl:((ptR R p h).map (Z6 W)).length=R.length:=by simp[ptR]
 have ind:∀ k,k<=R.length->HV ((ptR R p h).map (Z6 W)) (R.map (Z6 W)) k=if k<=p then [] else Q3w p (Z6 W (((R.getD p 0).toNat ^^^ 2 ^ h:Nat):Int)) (Z6 W (R.getD p 0)):=by
  intro k;induction k with
  |zero=>intro _;simp[HV]
  |succ k ih =>
   intro aB;have e:HV ((ptR R p h).map (Z6 W)) (R.map (Z6 W)) (k+1)=HV ((ptR R p h).map (Z6 W)) (R.map (Z6 W)) k++Q3w k (((ptR R p h).map (Z6 W)).getD k []) ((R.map (Z6 W)).getD k []):=by unfold HV;rw[List.range_succ,List.flatMap_append];simp only[List.flatMap_cons,List.flatMap_nil,xk]
   rw[e,ih (by omega),hk k (by omega)];rcases Nat.lt_trichotomy k p with x|x|x
   .rw[z7 (by omega),z6 (by omega),z7 (by omega)];rfl
   .rw[z7 (by omega),z7 x,z6 (by omega)];rfl
   .rw[z6 (by omega),z6 (by omega),z6 (by omega),xk]
 have:=ind R.length (zd _);rw[z6 (by omega)] at this;rw[<-this];unfold Q91 HV;rw[hl]
theorem Q8y {S:List Int}(ht:Zp H W=0) (w0:∀ x∈W,0<=x) (w1:1<=W.length) (w2:W.length<=96) (s1:1<=S.length) (s2:S.length<=60):Cb H W (S.map (Z6 W))=0/\Fv H W (S.map (Z6 W))=F5 W S:=by
 have hc:JF (S.map (Z6 W)) W.length=0:=by
  unfold JF;rw[z_,z6 (by omega),z6 (by omega),z6];intro hx;rw[zo] at hx;rcases hx with hx|hx
  .rw[show inI (W.length:Int) 1 96=true by simp[inI];omega] at hx;cases hx
  .obtain⟨s,hs,h3⟩:=xN.1 hx;obtain⟨r,_,rfl⟩:=zL.1 hs;rw[Q0o,Uz] at h3;simp at h3
 have hu:KE H W (S.map (Z6 W))=0:=by unfold KE;rw[z6 (by omega)];exact hc
 have hn:Pa W (S.map (Z6 W))=none:=C3.2 λi hi=>by rw[Qj hi,xD];exact Ib _ _
 have hE:Cb H W (S.map (Z6 W))=0:=by simp[Cb,hu,hn]
 exact⟨hE,by simp[Fv,hE,Ig w0]⟩
theorem Z02 {n:Nat}(hr:∀ x∈R,0<=x/\x<2 ^ n) (hp:p<R.length) (hh:h<n):∀ x∈ptR R p h,0<=x/\x<2 ^ n:=λx hx=>by
 rcases List.mem_or_eq_of_mem_set hx with e|e
 .exact hr x e
 .have h1:=hr _ (Xc hp);have gS:=Db n;have:=Nat.xor_lt_two_pow (x:=(R.getD p 0).toNat) (y:=2 ^ h) (n:=n) (by omega) (Nat.pow_lt_pow_right (by omega) hh);rw[e];omega
end
end Go.Proofs.Tryz
namespace Go.Proofs.Tryz
open Go Go.V Go.Proofs
def V8:AL ((Int×List Int×List Int×List Int)×Int×Int):=(.cons (.agg (.cons (.k (.i .u8)) (.cons (.k (.list (.i .u8))) (.cons (.k (.list (.i .u16))) (.one (.k (.list (.i .u8)))))))) (.one (.agg (.cons (.k (.i .u8)) (.one (.k (.i .u8)))))))
def MY (d:(Int×List Int×List Int×List Int)×Int×Int):Prop:=bOk d.1.1 d.1.2.1 d.1.2.2.1 d.1.2.2.2/\0<=d.2.1/\d.2.1<=255/\0<=d.2.2/\d.2.2<=255
def KI (d:(Int×List Int×List Int×List Int)×Int×Int):SV:=.val .bo true
def Kq (d:(Int×List Int×List Int×List Int)×Int×Int):List OB:=[]
def U2:CSp:=XU V8 MY KI Kq
abbrev XO (h8:Int):=((hkN 12 h8)=(hkN 12 h8)/\True/\(hkN 12 h8)=(hkN 12 h8)/\True/\(([]:List SV)=[]))
abbrev JG (h8:Int) (rs:List Int):=((Q7 (hkN 12 h8) 10 rs)=(Q7 (hkN 12 h8) 10 rs)/\false=false)
abbrev Q8 (h8:Int) (rs:List Int):=(lI (Q7 (hkN 12 h8) 10 rs))
abbrev XI (h8:Int) (ws:List Int):=((Qq (hkN 12 h8) 30 ws)=(Qq (hkN 12 h8) 30 ws)/\false=false)
abbrev Kh (h8:Int):=((hkN 12 h8)=(hkN 12 h8)/\True/\(([]:List SV)=[]))
abbrev H0 (h8:Int) (ws:List Int) (rs:List Int):=((Qq (hkN 12 h8) 30 ws).length<=1000/\(Q7 (hkN 12 h8) 10 rs).length<=1000)
abbrev De (h8:Int) (rs:List Int):=(false=true->(Q7 (hkN 12 h8) 10 rs)=[])
def Xd (h8:Int) (ws:List Int) (rs:List Int) (ds:List Int) (t0:Int) (t1:Int):Prop :=
 (bOk h8 ws rs ds)/\(I64 t0)/\((Q8 h8 rs)≠0)/\∀ (y1:Int),y1=(Int.tmod t0 (Q8 h8 rs))->(I64 t1)/\((hkN 12 h8)≠0)/\∀ (y2:Int),y2=(Int.tmod t1 (hkN 12 h8))->((Q7 (hkN 12 h8) 10 rs).length<=1000)/\(0<=y1)/\(y1<(List.length (Q7 (hkN 12 h8) 10 rs)))/\∀ (y3:Int),y3=(gD (Q7 (hkN 12 h8) 10 rs) y1 0)->(InK .u64 y2)/\(0<=y2)/\(I64 (WX .i64 (1:Int) y2))/\∀ (y4:Int),y4=(WX .i64 (1:Int) y2)->∀ (y5:Int),y5=(Q1 .xor .i64 y3 y4)->(0<=y1)/\(y1<(List.length (Q7 (hkN 12 h8) 10 rs)))/\((Q7 (hkN 12 h8) 10 rs).length<=1000)/\(De h8 rs)/\((sT (Q7 (hkN 12 h8) 10 rs) y1 y5).length<=1000)/\((Q7 (hkN 12 h8) 10 rs).length<=1000/\(sT (Q7 (hkN 12 h8) 10 rs) y1 y5).length<=1000)/\(H0 h8 ws rs)/\(false=true->(Qq (hkN 12 h8) 30 ws)=[])/\(De h8 rs)/\((True/\(Q8 h8 rs)=(Q8 h8 rs)/\True/\True/\((Ud (hkN 12 h8) (Q7 (hkN 12 h8) 10 rs) (hkN 12 h8) (sT (Q7 (hkN 12 h8) 10 rs) y1 y5)).1)=((Ud (hkN 12 h8) (Q7 (hkN 12 h8) 10 rs) (hkN 12 h8) (sT (Q7 (hkN 12 h8) 10 rs) y1 y5)).1)/\((Ud (hkN 12 h8) (Q7 (hkN 12 h8) 10 rs) (hkN 12 h8) (sT (Q7 (hkN 12 h8) 10 rs) y1 y5)).2.1)=((Ud (hkN 12 h8) (Q7 (hkN 12 h8) 10 rs) (hkN 12 h8) (sT (Q7 (hkN 12 h8) 10 rs) y1 y5)).2.1)/\((Ud (hkN 12 h8) (Q7 (hkN 12 h8) 10 rs) (hkN 12 h8) (sT (Q7 (hkN 12 h8) 10 rs) y1 y5)).2.2)=((Ud (hkN 12 h8) (Q7 (hkN 12 h8) 10 rs) (hkN 12 h8) (sT (Q7 (hkN 12 h8) 10 rs) y1 y5)).2.2)/\(Wt (hkN 12 h8) (Q7 (hkN 12 h8) 10 rs) (hkN 12 h8) (sT (Q7 (hkN 12 h8) 10 rs) y1 y5))=(Wt (hkN 12 h8) (Q7 (hkN 12 h8) 10 rs) (hkN 12 h8) (sT (Q7 (hkN 12 h8) 10 rs) y1 y5))/\True/\True/\(XO h8)/\True/\(Q8 h8 rs)=(Q8 h8 rs)/\True/\True/\True/\True)/\((h8=h8/\ws=ws/\rs=rs/\ds=ds/\(([]:List SV)=[]))/\(t0=t0/\t1=t1/\(([]:List SV)=[]))/\(XO h8)/\((1:Int)=(1:Int)/\y1=y1/\y2=y2/\(0:Int)=(0:Int)/\false=false/\(([]:List SV)=[]))/\(Kh h8)/\(XI h8 ws)/\((sT (Q7 (hkN 12 h8) 10 rs) y1 y5)=(sT (Q7 (hkN 12 h8) 10 rs) y1 y5)/\false=false)/\(JG h8 rs)/\((sT (Q7 (hkN 12 h8) 10 rs) y1 y5)=(sT (Q7 (hkN 12 h8) 10 rs) y1 y5)/\false=false)/\(XI h8 ws)/\([((1:Int),(y1,(y2,((0:Int),false))))]=[((1:Int),(y1,(y2,((0:Int),false))))]/\false=false)/\(JG h8 rs)/\(JG h8 rs)/\True))/\((H0 h8 ws rs)/\(false=true->(Qq (hkN 12 h8) 30 ws)=[])/\(De h8 rs)/\((True/\(Q8 h8 rs)=(Q8 h8 rs)/\True/\True/\((Ud (hkN 12 h8) (Q7 (hkN 12 h8) 10 rs) (hkN 12 h8) (sT (Q7 (hkN 12 h8) 10 rs) y1 y5)).1)=((Ud (hkN 12 h8) (Q7 (hkN 12 h8) 10 rs) (hkN 12 h8) (sT (Q7 (hkN 12 h8) 10 rs) y1 y5)).1)/\((Ud (hkN 12 h8) (Q7 (hkN 12 h8) 10 rs) (hkN 12 h8) (sT (Q7 (hkN 12 h8) 10 rs) y1 y5)).2.1)=((Ud (hkN 12 h8) (Q7 (hkN 12 h8) 10 rs) (hkN 12 h8) (sT (Q7 (hkN 12 h8) 10 rs) y1 y5)).2.1)/\((Ud (hkN 12 h8) (Q7 (hkN 12 h8) 10 rs) (hkN 12 h8) (sT (Q7 (hkN 12 h8) 10 rs) y1 y5)).2.2)=((Ud (hkN 12 h8) (Q7 (hkN 12 h8) 10 rs) (hkN 12 h8) (sT (Q7 (hkN 12 h8) 10 rs) y1 y5)).2.2)/\(Wt (hkN 12 h8) (Q7 (hkN 12 h8) 10 rs) (hkN 12 h8) (sT (Q7 (hkN 12 h8) 10 rs) y1 y5))=(Wt (hkN 12 h8) (Q7 (hkN 12 h8) 10 rs) (hkN 12 h8) (sT (Q7 (hkN 12 h8) 10 rs) y1 y5))/\True/\True/\(XO h8)/\True/\(Q8 h8 rs)=(Q8 h8 rs)/\True/\True/\True/\True)/\((h8=h8/\ws=ws/\rs=rs/\ds=ds/\(([]:List SV)=[]))/\(t0=t0/\t1=t1/\(([]:List SV)=[]))/\(XO h8)/\((1:Int)=(1:Int)/\y1=y1/\y2=y2/\(0:Int)=(0:Int)/\false=false/\(([]:List SV)=[]))/\(Kh h8)/\(XI h8 ws)/\((sT (Q7 (hkN 12 h8) 10 rs) y1 y5)=(sT (Q7 (hkN 12 h8) 10 rs) y1 y5)/\false=false)/\(JG h8 rs)/\((sT (Q7 (hkN 12 h8) 10 rs) y1 y5)=(sT (Q7 (hkN 12 h8) 10 rs) y1 y5)/\false=false)/\(XI h8 ws)/\([((1:Int),(y1,(y2,((0:Int),false))))]=[((1:Int),(y1,(y2,((0:Int),false))))]/\false=false)/\(JG h8 rs)/\(JG h8 rs)/\True)))/\((Qq (hkN 12 h8) 30 ws).length<=110/\(Q7 (hkN 12 h8) 10 rs).length<=110/\[((1:Int),(y1,(y2,((0:Int),false))))].length=1)/\(H0 h8 ws rs)/\(false=true->(Qq (hkN 12 h8) 30 ws)=[])/\(De h8 rs)/\((True/\(Q8 h8 rs)=(Q8 h8 rs)/\True/\True/\((Ud (hkN 12 h8) (Q7 (hkN 12 h8) 10 rs) (hkN 12 h8) (sT (Q7 (hkN 12 h8) 10 rs) y1 y5)).1)=((Ud (hkN 12 h8) (Q7 (hkN 12 h8) 10 rs) (hkN 12 h8) (sT (Q7 (hkN 12 h8) 10 rs) y1 y5)).1)/\((Ud (hkN 12 h8) (Q7 (hkN 12 h8) 10 rs) (hkN 12 h8) (sT (Q7 (hkN 12 h8) 10 rs) y1 y5)).2.1)=((Ud (hkN 12 h8) (Q7 (hkN 12 h8) 10 rs) (hkN 12 h8) (sT (Q7 (hkN 12 h8) 10 rs) y1 y5)).2.1)/\((Ud (hkN 12 h8) (Q7 (hkN 12 h8) 10 rs) (hkN 12 h8) (sT (Q7 (hkN 12 h8) 10 rs) y1 y5)).2.2)=((Ud (hkN 12 h8) (Q7 (hkN 12 h8) 10 rs) (hkN 12 h8) (sT (Q7 (hkN 12 h8) 10 rs) y1 y5)).2.2)/\(Wt (hkN 12 h8) (Q7 (hkN 12 h8) 10 rs) (hkN 12 h8) (sT (Q7 (hkN 12 h8) 10 rs) y1 y5))=(Wt (hkN 12 h8) (Q7 (hkN 12 h8) 10 rs) (hkN 12 h8) (sT (Q7 (hkN 12 h8) 10 rs) y1 y5))/\True/\Qr (hkN 12 h8) (Qq (hkN 12 h8) 30 ws) (hkN 12 h8) (Q7 (hkN 12 h8) 10 rs) [((1:Int),(y1,(y2,((0:Int),false))))] (Q8 h8 rs)=Qr (hkN 12 h8) (Qq (hkN 12 h8) 30 ws) (hkN 12 h8) (Q7 (hkN 12 h8) 10 rs) [((1:Int),(y1,(y2,((0:Int),false))))] (Q8 h8 rs)/\(XO h8)/\True/\(Q8 h8 rs)=(Q8 h8 rs)/\(XO h8)/\True/\(Q8 h8 rs)=(Q8 h8 rs)/\True)/\((h8=h8/\ws=ws/\rs=rs/\ds=ds/\(([]:List SV)=[]))/\(t0=t0/\t1=t1/\(([]:List SV)=[]))/\(XO h8)/\((1:Int)=(1:Int)/\y1=y1/\y2=y2/\(0:Int)=(0:Int)/\false=false/\(([]:List SV)=[]))/\(Kh h8)/\(XI h8 ws)/\((sT (Q7 (hkN 12 h8) 10 rs) y1 y5)=(sT (Q7 (hkN 12 h8) 10 rs) y1 y5)/\false=false)/\(JG h8 rs)/\((sT (Q7 (hkN 12 h8) 10 rs) y1 y5)=(sT (Q7 (hkN 12 h8) 10 rs) y1 y5)/\false=false)/\(XI h8 ws)/\([((1:Int),(y1,(y2,((0:Int),false))))]=[((1:Int),(y1,(y2,((0:Int),false))))]/\false=false)/\((RJ (hkN 12 h8) (Qq (hkN 12 h8) 30 ws) (hkN 12 h8) (Q7 (hkN 12 h8) 10 rs) [((1:Int),(y1,(y2,((0:Int),false))))] (Q8 h8 rs))=(RJ (hkN 12 h8) (Qq (hkN 12 h8) 30 ws) (hkN 12 h8) (Q7 (hkN 12 h8) 10 rs) [((1:Int),(y1,(y2,((0:Int),false))))] (Q8 h8 rs))/\(RJ (hkN 12 h8) (Qq (hkN 12 h8) 30 ws) (hkN 12 h8) (Q7 (hkN 12 h8) 10 rs) [((1:Int),(y1,(y2,((0:Int),false))))] (Q8 h8 rs)).isEmpty=(RJ (hkN 12 h8) (Qq (hkN 12 h8) 30 ws) (hkN 12 h8) (Q7 (hkN 12 h8) 10 rs) [((1:Int),(y1,(y2,((0:Int),false))))] (Q8 h8 rs)).isEmpty)/\(XI h8 ws)/\([((1:Int),(y1,(y2,((0:Int),false))))]=[((1:Int),(y1,(y2,((0:Int),false))))]/\false=false)/\(JG h8 rs)/\(JG h8 rs)/\(JG h8 rs)/\True))/\((H0 h8 ws rs)/\(false=true->(Qq (hkN 12 h8) 30 ws)=[])/\(De h8 rs)/\((True/\(Q8 h8 rs)=(Q8 h8 rs)/\True/\True/\((Ud (hkN 12 h8) (Q7 (hkN 12 h8) 10 rs) (hkN 12 h8) (sT (Q7 (hkN 12 h8) 10 rs) y1 y5)).1)=((Ud (hkN 12 h8) (Q7 (hkN 12 h8) 10 rs) (hkN 12 h8) (sT (Q7 (hkN 12 h8) 10 rs) y1 y5)).1)/\((Ud (hkN 12 h8) (Q7 (hkN 12 h8) 10 rs) (hkN 12 h8) (sT (Q7 (hkN 12 h8) 10 rs) y1 y5)).2.1)=((Ud (hkN 12 h8) (Q7 (hkN 12 h8) 10 rs) (hkN 12 h8) (sT (Q7 (hkN 12 h8) 10 rs) y1 y5)).2.1)/\((Ud (hkN 12 h8) (Q7 (hkN 12 h8) 10 rs) (hkN 12 h8) (sT (Q7 (hkN 12 h8) 10 rs) y1 y5)).2.2)=((Ud (hkN 12 h8) (Q7 (hkN 12 h8) 10 rs) (hkN 12 h8) (sT (Q7 (hkN 12 h8) 10 rs) y1 y5)).2.2)/\(Wt (hkN 12 h8) (Q7 (hkN 12 h8) 10 rs) (hkN 12 h8) (sT (Q7 (hkN 12 h8) 10 rs) y1 y5))=(Wt (hkN 12 h8) (Q7 (hkN 12 h8) 10 rs) (hkN 12 h8) (sT (Q7 (hkN 12 h8) 10 rs) y1 y5))/\True/\Qr (hkN 12 h8) (Qq (hkN 12 h8) 30 ws) (hkN 12 h8) (Q7 (hkN 12 h8) 10 rs) [((1:Int),(y1,(y2,((0:Int),false))))] (Q8 h8 rs)=Qr (hkN 12 h8) (Qq (hkN 12 h8) 30 ws) (hkN 12 h8) (Q7 (hkN 12 h8) 10 rs) [((1:Int),(y1,(y2,((0:Int),false))))] (Q8 h8 rs)/\(XO h8)/\True/\(Q8 h8 rs)=(Q8 h8 rs)/\(XO h8)/\True/\(Q8 h8 rs)=(Q8 h8 rs)/\True)/\((h8=h8/\ws=ws/\rs=rs/\ds=ds/\(([]:List SV)=[]))/\(t0=t0/\t1=t1/\(([]:List SV)=[]))/\(XO h8)/\((1:Int)=(1:Int)/\y1=y1/\y2=y2/\(0:Int)=(0:Int)/\false=false/\(([]:List SV)=[]))/\(Kh h8)/\(XI h8 ws)/\((sT (Q7 (hkN 12 h8) 10 rs) y1 y5)=(sT (Q7 (hkN 12 h8) 10 rs) y1 y5)/\false=false)/\(JG h8 rs)/\((sT (Q7 (hkN 12 h8) 10 rs) y1 y5)=(sT (Q7 (hkN 12 h8) 10 rs) y1 y5)/\false=false)/\(XI h8 ws)/\([((1:Int),(y1,(y2,((0:Int),false))))]=[((1:Int),(y1,(y2,((0:Int),false))))]/\false=false)/\((RJ (hkN 12 h8) (Qq (hkN 12 h8) 30 ws) (hkN 12 h8) (Q7 (hkN 12 h8) 10 rs) [((1:Int),(y1,(y2,((0:Int),false))))] (Q8 h8 rs))=(RJ (hkN 12 h8) (Qq (hkN 12 h8) 30 ws) (hkN 12 h8) (Q7 (hkN 12 h8) 10 rs) [((1:Int),(y1,(y2,((0:Int),false))))] (Q8 h8 rs))/\(RJ (hkN 12 h8) (Qq (hkN 12 h8) 30 ws) (hkN 12 h8) (Q7 (hkN 12 h8) 10 rs) [((1:Int),(y1,(y2,((0:Int),false))))] (Q8 h8 rs)).isEmpty=(RJ (hkN 12 h8) (Qq (hkN 12 h8) 30 ws) (hkN 12 h8) (Q7 (hkN 12 h8) 10 rs) [((1:Int),(y1,(y2,((0:Int),false))))] (Q8 h8 rs)).isEmpty)/\(XI h8 ws)/\([((1:Int),(y1,(y2,((0:Int),false))))]=[((1:Int),(y1,(y2,((0:Int),false))))]/\false=false)/\(JG h8 rs)/\(JG h8 rs)/\(JG h8 rs)/\True)))/\((Qq (hkN 12 h8) 30 ws).length<=110/\(Q7 (hkN 12 h8) 10 rs).length<=110/\[((1:Int),(y1,(y2,((0:Int),false))))].length=1)/\∀ (y6:Bool),y6=((Wt (hkN 12 h8) (Q7 (hkN 12 h8) 10 rs) (hkN 12 h8) (sT (Q7 (hkN 12 h8) 10 rs) y1 y5)) != (0:Int))->∀ (y7:Bool),y7=(Qr (hkN 12 h8) (Qq (hkN 12 h8) 30 ws) (hkN 12 h8) (Q7 (hkN 12 h8) 10 rs) [((1:Int),(y1,(y2,((0:Int),false))))] (Q8 h8 rs) != (0:Int))->∀ (y8:Bool),y8=(y6||y7)->∀ (y9:Bool),y9=(Qr (hkN 12 h8) (Qq (hkN 12 h8) 30 ws) (hkN 12 h8) (Q7 (hkN 12 h8) 10 rs) [((1:Int),(y1,(y2,((0:Int),false))))] (Q8 h8 rs) != (0:Int))->∀ (jM:Bool),jM=(y8||y9)->∀ (jN:Bool),jN=(((Ud (hkN 12 h8) (Q7 (hkN 12 h8) 10 rs) (hkN 12 h8) (sT (Q7 (hkN 12 h8) 10 rs) y1 y5)).1) != (1:Int))->∀ (ny:Bool),ny=(jM||jN)->∀ (jO:Bool),jO=(((Ud (hkN 12 h8) (Q7 (hkN 12 h8) 10 rs) (hkN 12 h8) (sT (Q7 (hkN 12 h8) 10 rs) y1 y5)).2.1) != y1)->∀ (nz:Bool),nz=(ny||jO)->∀ (jP:Bool),jP=(((Ud (hkN 12 h8) (Q7 (hkN 12 h8) 10 rs) (hkN 12 h8) (sT (Q7 (hkN 12 h8) 10 rs) y1 y5)).2.2) != y2)->∀ (jQ:Bool),jQ=(nz||jP)->∀ (jR:Bool),jR=((lI (Uu (hkN 12 h8) (Qq (hkN 12 h8) 30 ws) (hkN 12 h8) (Q7 (hkN 12 h8) 10 rs) [((1:Int),(y1,(y2,((0:Int),false))))] (Q8 h8 rs))) != (Q8 h8 rs))->∀ (lG:Bool),lG=(jQ||jR)->(lG=true ->
  (false=true/\(True))) /\
 (lG=false ->
  ∃ (e3:Int×Int×(List Int)×(List (Int×Int×Bool))×(List (List UInt8))) (d30:Int×Int×Int),((True/\(Q8 h8 rs)=(Q8 h8 rs)/\True/\True/\True/\True/\(0:Int)=d30.1/\(0:Int)=d30.2.1/\(0:Int)=d30.2.2/\True)/\((XO h8)/\(XI h8 ws)/\(JG h8 rs)/\((1:Int)=(1:Int)/\y1=e3.1/\y2=e3.2.1/\(0:Int)=(0:Int)/\false=false/\(([]:List SV)=[]))/\(Kh h8)/\((sT (Q7 (hkN 12 h8) 10 rs) y1 y5)=e3.2.2.1/\false=false)/\((RJ (hkN 12 h8) (Qq (hkN 12 h8) 30 ws) (hkN 12 h8) (Q7 (hkN 12 h8) 10 rs) [((1:Int),(y1,(y2,((0:Int),false))))] (Q8 h8 rs))=e3.2.2.2.1/\(RJ (hkN 12 h8) (Qq (hkN 12 h8) 30 ws) (hkN 12 h8) (Q7 (hkN 12 h8) 10 rs) [((1:Int),(y1,(y2,((0:Int),false))))] (Q8 h8 rs)).isEmpty=(List.isEmpty e3.2.2.2.1))/\((Uu (hkN 12 h8) (Qq (hkN 12 h8) 30 ws) (hkN 12 h8) (Q7 (hkN 12 h8) 10 rs) [((1:Int),(y1,(y2,((0:Int),false))))] (Q8 h8 rs))=(q4 e3)/\(Uu (hkN 12 h8) (Qq (hkN 12 h8) 30 ws) (hkN 12 h8) (Q7 (hkN 12 h8) 10 rs) [((1:Int),(y1,(y2,((0:Int),false))))] (Q8 h8 rs)).isEmpty=(List.isEmpty (q4 e3)))/\True)) /\
  LoopP (λ(d3:Int×Int×Int) (q3:(Int×Int×Int)->Prop) =>
   ∀ (qD:Bool),qD=(decide (d3.2.2<(lI (Qq (hkN 12 h8) 30 ws))))->(qD=true ->
    (0<=d3.2.2)/\(d3.2.2<(List.length (Qq (hkN 12 h8) 30 ws)))/\∀ (nU:Int),nU=(gD (Qq (hkN 12 h8) 30 ws) d3.2.2 0)->(InK .u64 nU)/\(0<=nU)/\(I64 (WX .i64 (1:Int) nU))/\∀ (rT:Int),rT=(WX .i64 (1:Int) nU)->∀ (qE:Int),qE=(Q1 .or .i64 d3.2.1 rT)->(0<=d3.2.2)/\(d3.2.2<(List.length (Qq (hkN 12 h8) 30 ws)))/\∀ (rU:Int),rU=(gD (Qq (hkN 12 h8) 30 ws) d3.2.2 0)->∀ (qF:Bool),qF=(rU != e3.2.1)->(qF=true ->
     (I64 (d3.2.2+(1:Int)))/\(∃ d4:Int×Int×Int,((True/\(Q8 h8 rs)=(Q8 h8 rs)/\True/\True/\True/\True/\d3.1=d4.1/\qE=d4.2.1/\(d3.2.2+(1:Int))=d4.2.2/\True)/\((XO h8)/\(XI h8 ws)/\(JG h8 rs)/\((1:Int)=(1:Int)/\e3.1=e3.1/\e3.2.1=e3.2.1/\(0:Int)=(0:Int)/\false=false/\(([]:List SV)=[]))/\(Kh h8)/\(e3.2.2.1=e3.2.2.1/\false=false)/\(e3.2.2.2.1=e3.2.2.2.1/\(List.isEmpty e3.2.2.2.1)=(List.isEmpty e3.2.2.2.1))/\((q4 e3)=(q4 e3)/\(List.isEmpty (q4 e3))=(List.isEmpty (q4 e3)))/\True))/\q3 d4)) /\
    (qF=false ->
     ∀ (jU:Bool),jU=(decide (d3.1>=(lI e3.2.2.2.1)))->(jU=false->0<=d3.1)/\(jU=false->d3.1<(List.length e3.2.2.2.1))/\∀ (rV:Int),rV=(gD e3.2.2.2.1 d3.1 (0,(0,false))).1->∀ (rW:Int),rW=(gD e3.2.2.2.1 d3.1 (0,(0,false))).2.1->∀ (rX:Bool),rX=(gD e3.2.2.2.1 d3.1 (0,(0,false))).2.2->(jU=false->0<=e3.1)/\(jU=false->e3.1<(List.length e3.2.2.1))/\∀ (rY:Int),rY=(gD e3.2.2.1 e3.1 0)->(jU=false->InK .u64 e3.2.1)/\(jU=false->0<=e3.2.1)/\∀ (rZ:Int),rZ=(Q9 .i64 rY e3.2.1)->∀ (r6:Int),r6=(Q1 .and .i64 rZ (1:Int))->∀ (r7:Bool),r7=(r6==(1:Int))->∀ (r8:Bool),r8=(!((rV==e3.1)&&((rW==d3.2.2)&&(rX==r7))))->∀ (qG:Bool),qG=(jU||r8)->(qG=true ->
      (false=true/\(True))) /\
     (qG=false ->
      (I64 (d3.1+(1:Int)))/\(I64 (d3.2.2+(1:Int)))/\(∃ d5:Int×Int×Int,((True/\(Q8 h8 rs)=(Q8 h8 rs)/\True/\True/\True/\True/\(d3.1+(1:Int))=d5.1/\qE=d5.2.1/\(d3.2.2+(1:Int))=d5.2.2/\True)/\((XO h8)/\(XI h8 ws)/\(JG h8 rs)/\((1:Int)=(1:Int)/\e3.1=e3.1/\e3.2.1=e3.2.1/\(0:Int)=(0:Int)/\false=false/\(([]:List SV)=[]))/\(Kh h8)/\(e3.2.2.1=e3.2.2.1/\false=false)/\(e3.2.2.2.1=e3.2.2.2.1/\(List.isEmpty e3.2.2.2.1)=(List.isEmpty e3.2.2.2.1))/\((q4 e3)=(q4 e3)/\(List.isEmpty (q4 e3))=(List.isEmpty (q4 e3)))/\True))/\q3 d5)))) /\
   (qD=false ->
    ((Qq (hkN 12 h8) 30 ws).length<=1000)/\((Qq (hkN 12 h8) 30 ws).length<=1000/\(q4 e3).length<=1000/\∀ s∈(q4 e3),s.length<=1000)/\∀ (r9:Bool),r9=(d3.1 != (lI e3.2.2.2.1))->∀ (r_:Bool),r_=((Cb (hkN 12 h8) (Qq (hkN 12 h8) 30 ws) (q4 e3)) != (0:Int))->∀ (sd:Bool),sd=(r9||r_)->∀ (se:Bool),se=((lI (Fv (hkN 12 h8) (Qq (hkN 12 h8) 30 ws) (q4 e3))) != (Q8 h8 rs))->∀ (qH:Bool),qH=(sd||se)->(qH=true ->
     (false=true/\(True))) /\
    (qH=false ->
     ∃ (e8:(List Int)×Int×Int×(List Int)) (d80:Int),(((Q8 h8 rs)=(Q8 h8 rs)/\True/\d3.2.1=e8.2.1/\True/\(0:Int)=d80/\True)/\((Kh h8)/\(e3.2.2.1=e8.1/\false=false)/\((if Cb (hkN 12 h8) (Qq (hkN 12 h8) 30 ws) (q4 e3)=0 then (hkN 12 h8) else 0)=e8.2.2.1/\True/\(([]:List SV)=[]))/\((Fv (hkN 12 h8) (Qq (hkN 12 h8) 30 ws) (q4 e3))=e8.2.2.2/\(Fv (hkN 12 h8) (Qq (hkN 12 h8) 30 ws) (q4 e3)).isEmpty=(List.isEmpty e8.2.2.2))/\True)) /\
     LoopP (λ(d8:Int) (q8:(Int)->Prop) =>
      ∀ (qI:Bool),qI=(decide (d8<(Q8 h8 rs)))->(qI=true ->
       (0<=d8)/\(d8<(List.length e8.2.2.2))/\∀ (sg:Int),sg=(gD e8.2.2.2 d8 0)->(0<=d8)/\(d8<(List.length e8.1))/\∀ (sh:Int),sh=(gD e8.1 d8 0)->∀ (si:Int),si=(Q1 .and .i64 sh e8.2.1)->∀ (qJ:Bool),qJ=(sg != si)->(qJ=true ->
        (false=true/\(True))) /\
       (qJ=false ->
        (I64 (d8+(1:Int)))/\(∃ d9:Int,(((Q8 h8 rs)=(Q8 h8 rs)/\True/\e8.2.1=e8.2.1/\True/\(d8+(1:Int))=d9/\True)/\((Kh h8)/\(e8.1=e8.1/\false=false)/\(e8.2.2.1=e8.2.2.1/\True/\(([]:List SV)=[]))/\(e8.2.2.2=e8.2.2.2/\(List.isEmpty e8.2.2.2)=(List.isEmpty e8.2.2.2))/\True))/\q8 d9))) /\
      (qI=false ->
       (True)/\(true=true->True)/\∀ (qK:Bool),qK=(true&&true)->(qK=true->True)/\∀ (sj:Bool),sj=(qK&&true)->(sj=true/\(True)))) d80))) d30)
def V9:Cx:=⟨[(37,(.pair (.i .i64) (.pair (.i .i64) (.pair (.i .i64) (.pair (.i .i64) .bo)))))],[(4,Yu),(5,UA),(6,UN),(8,M5),(7,Mb),(9,CSp.or Vq XG),(11,Vk),(10,NT),(12,Bj),(13,PQ),(14,DE)],222,[],0,[],[],[],[5,6,7,8,9,10,11,12,13,14,70,72,73,79,81,82],true,[],[],[],[]⟩
def Dx (h8:Int) (ws:List Int) (rs:List Int) (ds:List Int) (t0:Int) (t1:Int):List (Nat×LoopAnn):=[(0,⟨Int×Int×(List Int)×(List (Int×Int×Bool))×(List (List UInt8)),Int×Int×Int,[5,6,7,8,13,15,17,18,19],λe x=>[.box 5 0,.val (.i .i64) (((List.length (Q7 (hkN 12 h8) 10 rs)):Nat):Int),.box 7 0,.box 8 0,.lst 74,.lst 83,.val (.i .i64) x.1,.val (.i .i64) x.2.1,.val (.i .i64) x.2.2],λe x=>[(5,.slot 5,.cells [.val (.i .i64) (hkN 12 h8),.lst 24,.val (.i .i64) (hkN 12 h8),.lst 246] (some 33)),(24,.cell 5 1,.lst 3 (.i .i64) (Qq (hkN 12 h8) 30 ws) false),(246,.cell 5 3,.lst 3 (.i .i64) (Q7 (hkN 12 h8) 10 rs) false),(7,.slot 7,.cells [.val (.i .i64) (1:Int),.val (.i .i64) e.1,.val (.i .i64) e.2.1,.val (.i .i64) (0:Int),.val .bo false] (some 37)),(8,.slot 8,.cells [.val (.i .i64) (hkN 12 h8),.lst 44] (some 31)),(44,.cell 8 1,.lst 3 (.i .i64) e.2.2.1 false),(74,.slot 13,.lst 52 (.pair (.i .i64) (.pair (.i .i64) .bo)) e.2.2.2.1 (List.isEmpty e.2.2.2.1)),(83,.slot 15,.lst 9 .st e.2.2.2.2 (List.isEmpty e.2.2.2.2))]⟩),
 (2,⟨(List Int)×Int×Int×(List Int),Int,[6,8,18,20,22],λe x=>[.val (.i .i64) (((List.length (Q7 (hkN 12 h8) 10 rs)):Nat):Int),.box 8 0,.val (.i .i64) e.2.1,.box 20 0,.val (.i .i64) x],λe x=>[(8,.slot 8,.cells [.val (.i .i64) (hkN 12 h8),.lst 44] (some 31)),(44,.cell 8 1,.lst 3 (.i .i64) e.1 false),(20,.slot 20,.cells [.val (.i .i64) e.2.2.1,.lst 179] (some 31)),(179,.cell 20 1,.lst 3 (.i .i64) e.2.2.2 (List.isEmpty e.2.2.2))]⟩)]
theorem Dr (d:(Int×List Int×List Int×List Int)×Int×Int):gwp (V9) (Dx d.1.1 d.1.2.1 d.1.2.2.1 d.1.2.2.2 d.2.1 d.2.2) c3 0 (YI [.tmp 4] (KI d) (Kq d)) (Qv 222 (AL.can V8 d))=Xd d.1.1 d.1.2.1 d.1.2.2.1 d.1.2.2.2 d.2.1 d.2.2:=by kernel_rfl
abbrev Dz:Prop:=OkC Tryz.prog 3 U2
theorem Dt (h:∀ (h8:Int) (ws:List Int) (rs:List Int) (ds:List Int) (t0:Int) (t1:Int),(bOk h8 ws rs ds/\0<=t0/\t0<=255/\0<=t1/\t1<=255)->Xd h8 ws rs ds t0 t1):OkC Tryz.prog 3 U2 :=
 QB fun3 mixed (C:=V9) (V:=λ(d:(Int×List Int×List Int×List Int)×Int×Int)=>Xd d.1.1 d.1.2.1 d.1.2.2.1 d.1.2.2.2 d.2.1 d.2.2) ⟨(.cons Bx (.cons HI (.cons RZ (.cons SY (.cons Lb (.cons (OkC.or DK VU) (.cons B5 (.cons L4 (.cons Rw (.cons AI (.cons S8 .nil))))))))))),XsOk.nil,ItsOk.nil,YlOk.nil,IysOk.nil,XfOk.nil⟩ (Dr) λd hp=>h d.1.1 d.1.2.1 d.1.2.2.1 d.1.2.2.2 d.2.1 d.2.2 hp
set_option maxHeartbeats 2000000 in
theorem ok_top_TopPointFault:Dz:=Dt λh8 ws rs ds t0 t1 h=>by
 obtain⟨hL,p1,p2,p3,p4⟩:=h;unfold Xd
 (try delta XO JG Q8 XI Kh H0 De q4)
 (try delta lI gD sT I64 Q2 pj8 pj4)
 obtain⟨⟨n1,n2⟩,⟨w1,w2,w3⟩,⟨r1,r2,r3⟩⟩:=Q4o hL;refine⟨hL,by rw[QD];omega,?_⟩;clear hL;generalize Qq (hkN 12 h8) 30 ws=W at w1 w2 w3 |-;generalize Q7 (hkN 12 h8) 10 rs=R at r1 r2 r3 |-;generalize hkN 12 h8=H at n1 n2 w3 r3 |-;have iq:1<=W.length:=xm.2 w1;have fa:1<=R.length:=xm.2 r1;have w0:∀ x∈W,0<=x:=λx hx=>(w3 x hx).1;refine⟨by omega,λy1 sk=>⟨by rw[QD];omega,by omega,λy2 so=>?_⟩⟩;obtain⟨p,hp,rfl⟩:∃ p:Nat,p<R.length/\y1=(p:Int):=⟨t0.toNat % R.length,xG _ (by omega),by rw[sk,show t0=((t0.toNat:Nat):Int) by omega];rfl⟩;obtain⟨h,hh,rfl⟩:∃ h:Nat,(h:Int)<H/\y2=(h:Int):=by
  have:=xG t1.toNat (show H.toNat > 0 by omega);refine⟨t1.toNat % H.toNat,by omega,?_⟩;rw[so,show t1=((t1.toNat:Nat):Int) by omega];conv=>lhs;rw[show H=((H.toNat:Nat):Int) by omega]
  rfl
 clear sk so;have qT:=r3 _ (Xc hp);have gS:=Db H.toNat;have uN:2 ^ H.toNat<=2 ^ 12:=Nat.pow_le_pow_right (by omega) (by omega);refine⟨by omega,by omega,by omega,λy3 sq=>⟨by rw[S5];omega,by omega,Ik (by omega) (by omega),λy4 su y5 sv=>?_⟩⟩;have e5:y5=(((R.getD p 0).toNat ^^^ 2 ^ h:Nat):Int):=by rw[sv,su,sq,zg,FL (by omega) (by omega) (by omega),zg]
 have eS:List.set R (Int.toNat (p:Int)) y5=ptR R p h:=by rw[e5];rfl
 rw[eS];clear sq su sv e5 eS y3 y4 y5;have nR:(ptR R p h).length=R.length:=by simp[ptR]
 have ht:Zp H W=0:=Z2p (by omega) (by omega) (by omega) iq w3;have uO:Qb H W H R=0:=Q6m ht rfl (by omega) (by omega) fa (by omega) r3;have qL:Qr H W H R [(1,((p:Int),((h:Int),(0,false))))] (R.length:Int)=0:=Z1q uO hp (by omega) hh iq;have eQ:=Q4j qL hp w0;have b8:=(Ok qL).1;have qM:=Z02 (n:=H.toNat) r3 hp (show h<H.toNat by omega);obtain⟨uP,jg⟩:=Q8y (H:=H) (S:=ptR R p h) ht w0 iq (by omega) (by omega) (by omega);have vI:Qe H R=0:=Q6n (by omega) (by omega) (by omega) fa r3;have vJ:Qe H (ptR R p h)=0:=Q6n (by omega) (by omega) (by omega) (by omega) qM;have ll:Wt H R H (ptR R p h)=0:=by unfold Wt;rw[Cy];dsimp only;rw[z6 (by rw[z6 (by omega)];omega),z6 (by simp[nR])]
 have uQ:Ud H R H (ptR R p h)=(1,(p:Int),(h:Int)):=by unfold Ud;have:=IH (Q4y (h:=h) hp) (show h<24 by omega) R.length;rw[z6 (by omega)] at this;rw[z7 ll];exact this
 unfold ptD at eQ b8;rw[b8,eQ,ll,uQ];simp only[qL,true_and,and_true,exists_eq_left',zf,zy,bne_iff_ne,ne_eq,bne_eq_false_iff_eq,Int.ofNat_lt,ge_iff_le,forall_eq,false_implies,zt,Bool.or_self,Bool.and_self,xH,implies_true,z_,nR];have sw:[((1:Int),((p:Int),((h:Int),((0:Int),false))))].length=1:=rfl;refine⟨by omega,hp,by omega,by omega,⟨by omega,by omega⟩,⟨by omega,by omega⟩,⟨by omega,by omega⟩,⟨by omega,by omega,sw⟩,⟨by omega,by omega⟩,⟨by omega,by omega⟩,⟨by omega,by omega,sw⟩,λc=>by simp at c,λ_=>⟨((p:Int),(h:Int),ptR R p h,(XP W h W.length).map λ(w:Nat)=>((p:Int),((w:Int),((R.getD p 0).toNat ^^^ 2 ^ h).testBit h)),(ptR R p h).map (Z6 W)),(0,0,0),(by and_intros<;>first|rfl|trivial|simp),?_⟩⟩;dsimp only;refine⟨λd=>∃ i:Nat,d.2.2=(i:Int)/\i<=W.length/\d.1=((XP W h i).length:Int)/\d.2.1=((Dn W i:Nat):Int),λd=>W.length-d.2.2.toNat,⟨0,rfl,by omega,rfl,rfl⟩,?_⟩;rintro⟨k,u,j⟩ ⟨i,e1,uR,e2,e3⟩;dsimp only at e1 e2 e3 |-;subst e1 e2 e3;have lP:=Iy (n:=24) (lw:=W) (λx hx=>by have:=w3 x hx;omega) i uR;have sx:(ptR R p h).getD p 0=(((R.getD p 0).toNat ^^^ 2 ^ h:Nat):Int):=by unfold ptR;rw[Qj (by simpa using hp),List.getElem_set_self]
 have dH:=qM _ (Xc (show p<(ptR R p h).length by omega));rw[sx] at dH;simp only[zg,z_,sx];refine⟨λc=>?_,λc=>?_⟩
 .have hi:i<W.length:=by omega
  have hk:=w3 _ (Xc hi);have dE:Q1 .or .i64 ((Dn W i:Nat):Int) (WX .i64 1 (W.getD i 0))=((Dn W (i+1):Nat):Int):=by have dX:=Q9c (h:=(W.getD i 0).toNat) (by omega);rw[Q57 hk.1 (by omega),Z3n (by omega) (by omega)];simp only[Dn,Nat.one_shiftLeft]
  rw[dE];refine⟨by omega,by omega,by rw[S5];omega,by omega,Ik (by omega) (by omega),by omega,by omega,λaK=>?_,λheq=>?_⟩
  .refine⟨by rw[QD];omega,(((XP W h i).length:Int),((Dn W (i+1):Nat):Int),(i:Int)+1),(by and_intros<;>first|rfl|trivial|simp),⟨i+1,by dsimp only;omega,by omega,?_,rfl⟩,by dsimp only;omega⟩;rw[NO,z6 aK,xk]
  .obtain⟨q1,q2⟩:=Q30 hi heq;have q3:((XP W h W.length).map λ(w:Nat)=>((p:Int),((w:Int),((R.getD p 0).toNat ^^^ 2 ^ h).testBit h))).getD (XP W h i).length (0,(0,false))=((p:Int),((i:Int),((R.getD p 0).toNat ^^^ 2 ^ h).testBit h)):=by
    rw[Qj (by simpa using q1),xD];rw[Qj q1] at q2;rw[q2]
   have q4:=Q4z (x:=(((R.getD p 0).toNat ^^^ 2 ^ h:Nat):Int)) (h:=(h:Int)) (by omega) (by omega);rw[zg,zg] at q4;rw[q3];dsimp only;rw[q4,xQ (show ¬ ((XP W h W.length).length:Int)<=((XP W h i).length:Int) by omega)];have uH:(XP W h (i+1)).length=(XP W h i).length+1:=by rw[NO,z7 heq];simp
   have oD:(XP W h W.length).length<=W.length:=by unfold XP;exact zN (List.length_filter_le _ _) (by simp)
   refine⟨λ_=>by omega,λ_=>by omega,λ_=>by omega,λ_=>by omega,λ_=>by rw[S5];omega,λ_=>by omega,λc=>by simp at c,λ_=>⟨by rw[QD];omega,by rw[QD];omega,(((XP W h i).length:Int)+1,((Dn W (i+1):Nat):Int),(i:Int)+1),(by and_intros<;>first|rfl|trivial|simp),⟨i+1,by dsimp only;omega,by omega,by dsimp only;omega,rfl⟩,by dsimp only;omega⟩⟩
 .have hi:i=W.length:=by omega
  subst hi;rw[uP,jg];have eX:(F5 W (ptR R p h)).length=R.length:=by simp[F5,nR]
  refine⟨by omega,⟨by omega,by omega,λs hs=>?_⟩,λc=>by simp[eX] at c,λ_=>⟨(ptR R p h,((Dn W W.length:Nat):Int),H,F5 W (ptR R p h)),0,(by and_intros<;>first|rfl|trivial|simp),?_⟩⟩
  .obtain⟨r,_,rfl⟩:=zL.1 hs;rw[Uz];omega
  .dsimp only;refine LoopP.count R.length (λ_=>True) trivial (λk hk _ q hq c=>?_);have c:k<R.length:=by omega
   have uS:=qM _ (Xc (show k<(ptR R p h).length by omega));have e:(F5 W (ptR R p h)).getD k 0=Q1 .and .i64 ((ptR R p h).getD k 0) ((Dn W W.length:Nat):Int):=by
    unfold F5;rw[Qj (by simpa [nR] using c),xD,<-Qj (d:=0) (show k<(ptR R p h).length by omega)];generalize (ptR R p h).getD k 0=x at *
    obtain⟨y,rfl⟩:=zu uS.1;rw[Z5s (by omega) (by omega),zg]
   rw[zg];exact⟨by omega,by omega,by omega,by omega,λaK=>aK e,λ_=>⟨by rw[QD];omega,hq c trivial⟩⟩
theorem ID {α β:Type}{f:α->Option β}:∀ {L:List α}{ys:List β},L.mapM f=some ys->ys.length=L.length/\∀ (i:Nat) (h:i<L.length) (h2:i<ys.length),f L[i]=some ys[i]
 |[],ys,h=>by simp at h;subst h;simp
 |a::L,ys,h=>by
  simp only[zX,zA,zP,Option.pure_def,zY] at h;obtain⟨y,hy,zs,hz,rfl⟩:=h;obtain⟨e1,e2⟩:=ID hz;refine⟨by simp[e1],λi h1 h2=>?_⟩;cases i with
  |zero=>exact hy
  |succ i=>exact e2 i (by simpa using h1) (by simpa using h2)
theorem Q4t {H:Type}{enc:TypeId×Value->H}{P:Program}{w:World}{base:Nat}{sp:Nat->Bool}{held:Bool}{fuel:Nat}{t:TypeId}{k:IntKind}{c:Value}{y:DataW H×List MemPlace}
  (ht:P.underlying t=some (.int k)) (h:DataW.trod enc P w base sp held fuel t [c]=some y):∃ n,c=.int k n/\y=(.lit (.int k n),[]):=by
 cases fuel with
 |zero=>simp[DataW.trod] at h
 |succ fuel =>cases c<;>simp[DataW.trod,ht] at h;rename_i k' n;obtain⟨⟨rfl,_⟩,rfl⟩:=h;exact⟨n,rfl,rfl⟩
theorem Q4n {H:Type}{enc:TypeId×Value->H}{P:Program}{w:World}{base:Nat}{sp:Nat->Bool}{held:Bool}{fuel:Nat}{t e:TypeId}{k:IntKind}{n:Nat}{l:List Value}{xs:List Int}{p:List MemPlace}
  (ht:P.underlying t=some (.array n e)) (he:P.underlying e=some (.int k)) (h1:P.cellsOf e=1) (hc:P.cellsOf t=n) (h:DataW.trod enc P w base sp held fuel t l=some (.agg (xs.map λx=>.lit (.int k x)),p)):l=xs.map λx=>.int k x:=by
 cases fuel with
 |zero=>simp[DataW.trod] at h
 |succ fuel =>
  simp only[DataW.trod,ht,h1,hc,w8] at h;split at h
  .rename_i hl;simp only[zn,Prod.mk.injEq,DataW.agg.injEq] at h;obtain⟨ys,hm,hx,_⟩:=h;obtain⟨e1,e2⟩:=ID hm;rw[w4] at e1;have hlen:xs.length=ys.length:=by
    have:=congrArg List.length hx;simpa using this.symm
   refine List.ext_getElem (by rw[z_];omega) λi k1 k2=>?_;have hy:=e2 i (by rw[w4];omega) (by omega);rw[List.getElem_range,xE k1] at hy;simp only[xO,List.take_zero] at hy;obtain⟨m,lr,gO⟩:=Q4t he hy;rw[lr,xD];have qN:(ys.map (·.1))[i]'(by rw[z_];omega)=(xs.map λx=>(DataW.lit (Lit.int k x):DataW H))[i]'(by rw[z_];omega):=by
    simp only[hx]
   rw[xD,xD,gO] at qN;simp only[DataW.lit.injEq,Lit.int.injEq,true_and] at qN;rw[qN]
  .cases h
theorem tab_heap {P:Program}{nm:String}{g G:Nat}{t e:TypeId}{k:IntKind}{n fuel:Nat}{cs:Array Value}{xs:List Int}{p:List MemPlace}{W:World}(hv:W.var? P nm=some cs) (hG:P.globalNamed nm=some G) (hg:P.globalNamed nm=some g) {T:TypeId}(hT:(P.globals[G]?).map (·.type)=some T) (oa:(P.globals[g]?).map (·.type)=some t)
  (ht:P.underlying T=some (.array n e)) (he:P.underlying e=some (.int k)) (h1:P.cellsOf e=1) (hc:P.cellsOf T=n) (hd:DataW.trod (λ_=>()) P W 0 (λ_=>true) false fuel t cs.toList=some (.agg (xs.map λx=>.lit (.int k x)),p)):∃ e f,W.heap[G]?=some (.cells (xs.map λx=>Value.int k x).toArray e f):=by
 obtain rfl:=osj (hG.symm.trans hg);obtain rfl:=osj (hT.symm.trans oa);have hl:=Q4n ht he h1 hc hd;unfold World.var? at hv;rw[hG] at hv;simp only[x3] at hv;split at hv
 .rename_i cs' a b hh;obtain rfl:=osj hv;refine⟨a,b,?_⟩;rw[hh,<-hl]
 .cases hv
theorem Q6z {l:List Int}(h:KWf (.list (.i .u8)) l):u8s l:=λx hx=>(IC x).1 (h.2 x hx)
theorem Q8v {l:List Int}(h:KWf (.list (.i .u16)) l):Z5x l:=λx hx=>(Q7d x).1 (h.2 x hx)
theorem Z20 {x:Int×List Int×List Int×List Int}(h:KWf (.pair (.i .u8) (.pair (.list (.i .u8)) (.pair (.list (.i .u16)) (.list (.i .u8))))) x):bOk x.1 x.2.1 x.2.2.1 x.2.2.2:=by obtain⟨h1,h2,h3,h4⟩:=h;have h1:=(IC x.1).1 h1;exact⟨h1.1,h1.2,Q6z h2,Q8v h3,Q6z h4⟩
theorem ptPre_of {x:(Int×List Int×List Int×List Int)×Int×Int}(h:AWf [.pair (.i .u8) (.pair (.list (.i .u8)) (.pair (.list (.i .u16)) (.list (.i .u8)))),.pair (.i .u8) (.i .u8)] x):bOk x.1.1 x.1.2.1 x.1.2.2.1 x.1.2.2.2/\0<=x.2.1/\x.2.1<=255/\0<=x.2.2/\x.2.2<=255:=by obtain⟨h1,h2,h3⟩:=h;have h2:=(IC x.2.1).1 h2;have h3:=(IC x.2.2).1 h3;exact⟨Z20 h1,h2.1,h2.2,h3.1,h3.2⟩
end Go.Proofs.Tryz