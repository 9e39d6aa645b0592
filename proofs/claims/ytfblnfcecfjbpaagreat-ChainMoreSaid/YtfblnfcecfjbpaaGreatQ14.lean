/- A framework for walks, contracts of functions, and their proofs: part 14. -/
import Derived.Test.YtfblnfcecfjbpaaGreatQ13
set_option linter.unusedVariables false
set_option maxRecDepth 100000
namespace Go.Proofs.Tryz
open Go Go.V Go.Proofs
theorem Tp {l:List Int}(h:KWf (.list (.i .u8)) l):l.length<=9223372036854775807/\∀ x∈l,0<=x/\x<=255:=⟨h.1,λx hx=>(Cs x).1 (h.2 x hx)⟩
theorem Au {x:List Int×Int×List Int×List Int}(h:KWf (.pair (.list (.i .u8)) (.pair (.i .u8) (.pair (.list (.i .u8)) (.list (.i .u8))))) x):x.1.length<=9223372036854775807/\(∀ y∈x.1,0<=y/\y<=255)/\0<=x.2.1/\x.2.1<=255/\x.2.2.1.length<=9223372036854775807/\(∀ y∈x.2.2.1,0<=y/\y<=255)/\x.2.2.2.length<=9223372036854775807/\(∀ y∈x.2.2.2,0<=y/\y<=255):=by obtain⟨h1,h2,h3,h4⟩:=h;have h2:=(Cs x.2.1).1 h2;exact⟨(Tp h1).1,(Tp h1).2,h2.1,h2.2,(Tp h3).1,(Tp h3).2,(Tp h4).1,(Tp h4).2⟩
theorem morePre_of {x:(List Int×Int×List Int×List Int)×Int×Int}(h:AWf [(.pair (.list (.i .u8)) (.pair (.i .u8) (.pair (.list (.i .u8)) (.list (.i .u8))))),.i .u8,.i .u8] x):x.1.1.length<=9223372036854775807/\(∀ y∈x.1.1,0<=y/\y<=255)/\0<=x.1.2.1/\x.1.2.1<=255/\x.1.2.2.1.length<=9223372036854775807/\(∀ y∈x.1.2.2.1,0<=y/\y<=255)/\x.1.2.2.2.length<=9223372036854775807/\(∀ y∈x.1.2.2.2,0<=y/\y<=255)/\0<=x.2.1/\x.2.1<=255/\0<=x.2.2/\x.2.2<=255:=by obtain⟨h1,h2,h3⟩:=h;obtain⟨a1,a2,a3,a4,a5,a6,a7,a8⟩:=Au h1;have h2:=(Cs x.2.1).1 h2;have h3:=(Cs x.2.2).1 h3;exact⟨a1,a2,a3,a4,a5,a6,a7,a8,h2.1,h2.2,h3.1,h3.2⟩
def PQ:AL (Unit):=.nil
def PJ (d:Unit):Prop:=True
def Hl (d:Unit):SV:=.val .bo true
def Px (d:Unit):List OB:=[]
def GR:CSp:=V7 PQ PJ Hl Px
abbrev PU:Prop:=OkC Tryz.prog 15 GR
theorem PR:PU:=Q02 λ_ _ h=>Ou h
def K_:AL ((List Int×Int×List Int×List Int)×Int×Int):=(.cons (.agg (.cons (.k (.list (.i .u8))) (.cons (.k (.i .u8)) (.cons (.k (.list (.i .u8))) (.one (.k (.list (.i .u8)))))))) (.cons (.k (.i .u8)) (.one (.k (.i .u8)))))
def G3 (d:(List Int×Int×List Int×List Int)×Int×Int):Prop:=d.1.1.length<=9223372036854775807/\(∀ x∈d.1.1,0<=x/\x<=255)/\0<=d.1.2.1/\d.1.2.1<=255/\d.1.2.2.1.length<=9223372036854775807/\(∀ x∈d.1.2.2.1,0<=x/\x<=255)/\d.1.2.2.2.length<=9223372036854775807/\(∀ x∈d.1.2.2.2,0<=x/\x<=255)/\0<=d.2.1/\d.2.1<=255/\0<=d.2.2/\d.2.2<=255
def Kl (d:(List Int×Int×List Int×List Int)×Int×Int):SV:=.val .bo true
def K2 (d:(List Int×Int×List Int×List Int)×Int×Int):List OB:=[]
def VF:CSp:=V7 K_ G3 Kl K2
abbrev YU :=((3:Int)=(3:Int)/\True/\(([]:List SV)=[]))
abbrev YK (rw:List Int):=((Q9 rw)=(Q9 rw)/\false=false)
abbrev Rb :=((((0:Int) != (0:Int))||((0:Int) != (0:Int)))||((0:Int) != (0:Int)))
def JF (rw:List Int) (fi:Int) (sp:List Int) (sn:List Int) (at_:Int) (wr:Int):Prop :=
 (rw.length<=9223372036854775807/\(∀ x∈rw,0<=x/\x<=255)/\0<=fi/\fi<=255/\sp.length<=9223372036854775807/\(∀ x∈sp,0<=x/\x<=255)/\sn.length<=9223372036854775807/\(∀ x∈sn,0<=x/\x<=255))/\(rw.length<=9223372036854775807/\(∀ x∈rw,0<=x/\x<=255)/\0<=fi/\fi<=255/\sp.length<=9223372036854775807/\(∀ x∈sp,0<=x/\x<=255)/\sn.length<=9223372036854775807/\(∀ x∈sn,0<=x/\x<=255)/\0<=(6:Int)/\(6:Int)<=6)/\((decide ((lI (Tm rw fi sp sn (6:Int))) > (0:Int)))=true->(3:Int)≠0)/\∃ (e3:Unit),Q69 (λ(q3:((List Int))->Prop) =>
 (((decide ((lI (Tm rw fi sp sn (6:Int))) > (0:Int)))&&((Int.tmod wr (3:Int))==(0:Int)))=true ->
  (I64 wr)/\((lI (Tm rw fi sp sn (6:Int)))≠0)/\(I64 wr)/\((8:Int)≠0)/\(0<=(Int.tmod wr (lI (Tm rw fi sp sn (6:Int)))))/\((Int.tmod wr (lI (Tm rw fi sp sn (6:Int))))<(List.length (Tm rw fi sp sn (6:Int))))/\(∃ d4:(List Int),((at_=at_/\True/\True/\True)/\(YU/\(YK rw)/\((sT (Tm rw fi sp sn (6:Int)) (Int.tmod wr (lI (Tm rw fi sp sn (6:Int)))) (Int.tmod wr (8:Int)))=d4/\(Tm rw fi sp sn (6:Int)).isEmpty=(List.isEmpty d4))/\True))/\q3 d4)) /\
 (((decide ((lI (Tm rw fi sp sn (6:Int))) > (0:Int)))&&((Int.tmod wr (3:Int))==(0:Int)))=false ->
  (∃ d5:(List Int),((at_=at_/\True/\True/\True)/\(YU/\(YK rw)/\((Tm rw fi sp sn (6:Int))=d5/\(Tm rw fi sp sn (6:Int)).isEmpty=(List.isEmpty d5))/\True))/\q3 d5)))
 (λ(d3:(List Int)) =>
  (d3.length<=1000)/\∃ (e8:(List Int)),Q69 (λ(q8:((List Int))->Prop) =>
  ((decide ((lI d3) > (0:Int)))=true ->
   (I64 at_)/\((lI d3)≠0)/\(0<=(Int.tmod at_ (lI d3)))/\((Int.tmod at_ (lI d3))<(List.length d3))/\(∃ d9:(List Int),((True/\True/\True/\True)/\(YU/\(YK rw)/\(d3=e8/\(List.isEmpty d3)=(List.isEmpty e8))/\((sT d3 (Int.tmod at_ (lI d3)) (-1:Int))=d9/\false=false)/\True))/\q8 d9)) /\
  ((decide ((lI d3) > (0:Int)))=false ->
   (∃ d10:(List Int),((True/\True/\True/\True)/\(YU/\(YK rw)/\(d3=e8/\(List.isEmpty d3)=(List.isEmpty e8))/\(d3=d10/\false=false)/\True))/\q8 d10)))
  (λ(d8:(List Int)) =>
   ((Q9 rw).length<=1000)/\(e8.length<=1000)/\(Z1 (3:Int) (Q9 rw)=0/\e8.length<=60/\(∀ r∈e8,-1<=r/\r<2 ^ (3:Int).toNat))/\((((Js (3:Int) (Q9 rw) e8) != (0:Int))&&((Js (3:Int) (Q9 rw) e8) != (7:Int)))=true ->
    (false=true/\(True))) /\
   ((((Js (3:Int) (Q9 rw) e8) != (0:Int))&&((Js (3:Int) (Q9 rw) e8) != (7:Int)))=false ->
    ∃ (bO:(List Int)×(List Int)×Int×Int) (d130:Int×Int×Int),((True/\True/\True/\(Nn (3:Int) (Q9 rw) e8)=bO.2.2.1/\(Js (3:Int) (Q9 rw) e8)=bO.2.2.2/\(0:Int)=d130.1/\(0:Int)=d130.2.1/\(0:Int)=d130.2.2/\True)/\(YU/\(YK rw)/\(e8=bO.1/\(List.isEmpty e8)=(List.isEmpty bO.1))/\(d8=bO.2.1/\false=false)/\True)) /\
    LoopP (λ(d13:Int×Int×Int) (vD:(Int×Int×Int)->Prop) =>
     ((decide (d13.2.2<=(6:Int)))=true ->
      ((Q9 rw).length<=1000)/\(bO.1.length<=1000)/\(Z1 (3:Int) (Q9 rw)=0/\bO.1.length<=60/\(∀ r∈bO.1,-1<=r/\r<2 ^ (3:Int).toNat)/\0<=d13.2.2/\d13.2.2<=6)/\((Q9 rw).length<=1000)/\(bO.1.length<=1000)/\(Z1 (3:Int) (Q9 rw)=0/\bO.1.length<=60/\(∀ r∈bO.1,-1<=r/\r<2 ^ (3:Int).toNat)/\0<=d13.2.2/\d13.2.2<=6)/\((Q9 rw).length<=1000)/\(bO.2.1.length<=1000)/\(Z1 (3:Int) (Q9 rw)=0/\bO.2.1.length<=60/\(∀ r∈bO.2.1,-1<=r/\r<2 ^ (3:Int).toNat)/\0<=d13.2.2/\d13.2.2<=6)/\(((((((Rb||(decide ((Jd (3:Int) (Q9 rw) bO.1 d13.2.2)<d13.1)))||(decide ((lI (Zj (3:Int) (Q9 rw) bO.1 d13.2.2))<d13.2.1)))||(decide ((Jd (3:Int) (Q9 rw) bO.2.1 d13.2.2)<(Jd (3:Int) (Q9 rw) bO.1 d13.2.2))))||(!((decide ((Jd (3:Int) (Q9 rw) bO.1 d13.2.2) > (0:Int)))==((bO.2.2.2==(0:Int))&&(decide (bO.2.2.1<=d13.2.2))))))||(!((decide ((Jd (3:Int) (Q9 rw) bO.1 d13.2.2) > (0:Int)))==(decide ((lI (Zj (3:Int) (Q9 rw) bO.1 d13.2.2)) > (0:Int))))))||((d13.2.2==(0:Int))&&(decide ((Jd (3:Int) (Q9 rw) bO.1 d13.2.2) > (lI (Q9 rw))))))=true ->
       (false=true/\(True))) /\
      (((((((Rb||(decide ((Jd (3:Int) (Q9 rw) bO.1 d13.2.2)<d13.1)))||(decide ((lI (Zj (3:Int) (Q9 rw) bO.1 d13.2.2))<d13.2.1)))||(decide ((Jd (3:Int) (Q9 rw) bO.2.1 d13.2.2)<(Jd (3:Int) (Q9 rw) bO.1 d13.2.2))))||(!((decide ((Jd (3:Int) (Q9 rw) bO.1 d13.2.2) > (0:Int)))==((bO.2.2.2==(0:Int))&&(decide (bO.2.2.1<=d13.2.2))))))||(!((decide ((Jd (3:Int) (Q9 rw) bO.1 d13.2.2) > (0:Int)))==(decide ((lI (Zj (3:Int) (Q9 rw) bO.1 d13.2.2)) > (0:Int))))))||((d13.2.2==(0:Int))&&(decide ((Jd (3:Int) (Q9 rw) bO.1 d13.2.2) > (lI (Q9 rw))))))=false ->
       (I64 (d13.2.2+(1:Int)))/\(∃ d14:Int×Int×Int,((True/\True/\True/\bO.2.2.1=bO.2.2.1/\bO.2.2.2=bO.2.2.2/\(Jd (3:Int) (Q9 rw) bO.1 d13.2.2)=d14.1/\(lI (Zj (3:Int) (Q9 rw) bO.1 d13.2.2))=d14.2.1/\(d13.2.2+(1:Int))=d14.2.2/\True)/\(YU/\(YK rw)/\(bO.1=bO.1/\(List.isEmpty bO.1)=(List.isEmpty bO.1))/\(bO.2.1=bO.2.1/\false=false)/\True))/\vD d14))) /\
     ((decide (d13.2.2<=(6:Int)))=false ->
      ∃ (df:Unit) (d170:(List Int)×Int),((True/\True/\(0:Int)=d170.2/\True)/\(YU/\(YK rw)/\(bO.2.1=d170.1/\false=false)/\True)) /\
      LoopP (λ(d17:(List Int)×Int) (p5:((List Int)×Int)->Prop) =>
       ((decide (d17.2<(lI d17.1)))=true ->
        (0<=d17.2)/\(d17.2<(List.length d17.1))/\(I64 (d17.2+(1:Int)))/\(∃ d18:(List Int)×Int,((True/\True/\(d17.2+(1:Int))=d18.2/\True)/\(YU/\(YK rw)/\((sT d17.1 d17.2 (-1:Int))=d18.1/\false=false)/\True))/\p5 d18)) /\
       ((decide (d17.2<(lI d17.1)))=false ->
        ((Q9 rw).length<=1000)/\(Z1 (3:Int) (Q9 rw)=0/\d17.1.length<=60/\(∀ r∈d17.1,-1<=r/\r<2 ^ (3:Int).toNat)/\0<=(0:Int)/\(0:Int)<=6)/\((((0:Int)==(0:Int))&&((Jd (3:Int) (Q9 rw) d17.1 (0:Int))==(lI (Q9 rw))))=true->True)/\(((((0:Int)==(0:Int))&&((Jd (3:Int) (Q9 rw) d17.1 (0:Int))==(lI (Q9 rw))))&&true)=true/\(True)))) d170)) d130)))
def V1:Cx:=⟨[],[(53,JK),(54,XC),(25,NB),(16,MZ),(26,Vj),(27,V5),(28,YE),(15,GR)],205,[],0,[],[],[],[],false,[],[],[],[]⟩
def D7 (rw:List Int) (fi:Int) (sp:List Int) (sn:List Int) (at_:Int) (wr:Int):List (Nat×LoopAnn):=[(0,⟨(List Int)×(List Int)×Int×Int,Int×Int×Int,[7,10,13,16,17,18,19,20],λe x=>[.box 7 0,.lst 239,.lst 59,.val (.i .i64) e.2.2.1,.val (.i .i64) e.2.2.2,.val (.i .i64) x.1,.val (.i .i64) x.2.1,.val (.i .i64) x.2.2],λe x=>[(7,.slot 7,.cells [.val (.i .i64) (3:Int),.lst 31] (some 24)),(31,.cell 7 1,.lst 87 (.pair (.i .i64) (.pair (.i .i64) .bo)) (Q9 rw) false),(239,.slot 10,.lst 3 (.i .i64) e.1 (List.isEmpty e.1)),(59,.slot 13,.lst 3 (.i .i64) e.2.1 false)]⟩),
 (2,⟨Unit,(List Int)×Int,[7,13,27],λe x=>[.box 7 0,.lst 59,.val (.i .i64) x.2],λe x=>[(7,.slot 7,.cells [.val (.i .i64) (3:Int),.lst 31] (some 24)),(31,.cell 7 1,.lst 87 (.pair (.i .i64) (.pair (.i .i64) .bo)) (Q9 rw) false),(59,.slot 13,.lst 3 (.i .i64) x.1 false)]⟩),
 (3000047,⟨Unit,(List Int),[1,7,10],λe x=>[.val (.i .u8) at_,.box 7 0,.lst 239],λe x=>[(7,.slot 7,.cells [.val (.i .i64) (3:Int),.lst 31] (some 24)),(31,.cell 7 1,.lst 87 (.pair (.i .i64) (.pair (.i .i64) .bo)) (Q9 rw) false),(239,.slot 10,.lst 3 (.i .i64) x (List.isEmpty x))]⟩),
 (3000062,⟨(List Int),(List Int),[7,10,13],λe x=>[.box 7 0,.lst 239,.lst 59],λe x=>[(7,.slot 7,.cells [.val (.i .i64) (3:Int),.lst 31] (some 24)),(31,.cell 7 1,.lst 87 (.pair (.i .i64) (.pair (.i .i64) .bo)) (Q9 rw) false),(239,.slot 10,.lst 3 (.i .i64) e (List.isEmpty e)),(59,.slot 13,.lst 3 (.i .i64) x false)]⟩)]
theorem GZ (d:(List Int×Int×List Int×List Int)×Int×Int):gwp (V1) (D7 d.1.1 d.1.2.1 d.1.2.2.1 d.1.2.2.2 d.2.1 d.2.2) c10 0 (Vv [.tmp 6] (Kl d) (K2 d)) (Qw 205 (AL.can K_ d))=JF d.1.1 d.1.2.1 d.1.2.2.1 d.1.2.2.2 d.2.1 d.2.2:=by kernel_rfl
abbrev GX:Prop:=OkC Tryz.prog 10 VF
theorem Dm (h:∀ (rw:List Int) (fi:Int) (sp:List Int) (sn:List Int) (at_:Int) (wr:Int),(rw.length<=9223372036854775807/\(∀ x∈rw,0<=x/\x<=255)/\0<=fi/\fi<=255/\sp.length<=9223372036854775807/\(∀ x∈sp,0<=x/\x<=255)/\sn.length<=9223372036854775807/\(∀ x∈sn,0<=x/\x<=255)/\0<=at_/\at_<=255/\0<=wr/\wr<=255)->JF rw fi sp sn at_ wr):OkC Tryz.prog 10 VF :=
 Z4 fun10 mixed (C:=V1) (V:=λ(d:(List Int×Int×List Int×List Int)×Int×Int)=>JF d.1.1 d.1.2.1 d.1.2.2.1 d.1.2.2.2 d.2.1 d.2.2) ⟨(.cons Kj (.cons Mr (.cons Rp (.cons SW (.cons Hu (.cons GS (.cons MY (.cons PR .nil)))))))),XsOk.nil,ItsOk.nil,YlOk.nil,IysOk.nil,XfOk.nil⟩ (GZ) λd hp=>h d.1.1 d.1.2.1 d.1.2.2.1 d.1.2.2.2 d.2.1 d.2.2 hp
set_option maxHeartbeats 2000000 in
theorem ok_law02_ChainMore:GX:=Dm λrw fi sp sn at_ wr h=>by
 obtain⟨h1,h2,h3,h4,h5,h6,h7,h8,h9,bS,ft,nj⟩:=id h;have hl:=P3 rw;have hN:=H9 rw;have hM:=Q3i sp;have pw:=IS h2;have vE:=Oj rw fi sp sn 6;have px:∀ r∈Tm rw fi sp sn 6,-1<=r/\r<8:=λr hr=>by obtain⟨i,_,rfl⟩:=zI.1 hr;exact Q7o h2 fi sp sn 6 i
 have aW:∀ (l:List Int) (i:Nat) (x:Int),(∀ r∈l,-1<=r/\r<8)->-1<=x->x<8->∀ r∈l.set i x,-1<=r/\r<8:=λl i x hl h1 h2 r hr=>by
  rcases List.mem_or_eq_of_mem_set hr with hr|rfl
  .exact hl r hr
  .exact⟨h1,h2⟩
 have hn:0<(Q9 rw).length:=by omega
 unfold JF;(try delta YU YK Rb);(try delta lI gD sT I64 NF pj8 pj4);generalize Tm rw fi sp sn 6=CL at *
 generalize Q9 rw=CS at *
 simp only[true_and,and_true];refine⟨⟨h1,h2,h3,h4,h5,h6,h7,h8⟩,⟨h1,h2,h3,h4,h5,h6,h7,h8,by decide,by decide⟩,λ_=>by decide,(),λd=>d.length<=40/\∀ r∈d,-1<=r/\r<8,⟨λc=>?_,λc=>?_⟩,?_⟩
 .rw[z7,zk] at c;have t1:=Int.tmod_nonneg (CL.length:Int) ft;have t2:=Int.tmod_lt_of_pos wr c.1;have t3:=Int.tmod_nonneg 8 ft;have t4:=Int.tmod_lt_of_pos wr (show (0:Int)<8 by omega);refine⟨by rw[Qm];omega,by omega,by rw[Qm];omega,by decide,t1,t2,CL.set (Int.toNat (Int.tmod wr CL.length)) (Int.tmod wr 8),?_,by rw[xK];omega,aW _ _ _ px (by omega) t4⟩;and_intros<;>first|rfl|trivial|(cases CL<;>simp)
 .exact⟨CL,by and_intros<;>first|rfl|trivial,by omega,px⟩
 rintro D ⟨wo,r4⟩;refine⟨by omega,D,λd=>d.length=D.length/\(∀ r∈d,-1<=r/\r<8)/\∀ k,k<D.length->d.getD k 0=D.getD k 0\/d.getD k 0=-1,⟨λc=>?_,λc=>?_⟩,?_⟩
 .have c:=xh c;have t1:=Int.tmod_nonneg (D.length:Int) h9;have t2:=Int.tmod_lt_of_pos at_ c;refine⟨by rw[Qm];omega,by omega,t1,t2,D.set (Int.toNat (Int.tmod at_ D.length)) (-1),?_,by rw[xK],aW _ _ _ r4 (by decide) (by decide),λk hk=>?_⟩
  .and_intros<;>first|rfl|trivial
  .rw[Qh (by rw[xK];exact hk),List.getElem_set];split
   .exact .inr rfl
   .exact .inl (Qh hk).symm
 .exact⟨D,by and_intros<;>first|rfl|trivial,rfl,r4,λk hk=>.inl rfl⟩
 rintro L ⟨pc,mO,pZ⟩;have e8:(2:Int) ^ Int.toNat 3=8:=rfl;have r6:∀ r∈D,-1<=r/\r<2 ^ Int.toNat 3:=λr hr=>by rw[e8];exact r4 r hr
 have vF:∀ r∈L,-1<=r/\r<2 ^ Int.toNat 3:=λr hr=>by rw[e8];exact mO r hr
 have py:∀ k,k<D.length->∀ a,wvB 3 CS D k a=true->wvB 3 CS L k a=true:=λk hk a hw=>by
  unfold wvB at hw |-;rcases pZ k hk with e|e
  .rw[e];exact hw
  .rw[e];rfl
 have bk:=λfa hf=>Q0o (hk:=3) (cs:=CS) (cl:=D) (fa:=fa) hf hn;have vG:=λfa=>Er (hk:=3) (cs:=CS) (cl:=D) (fa:=fa) hn;have vH:=L7 (hk:=3) (cl:=D) hn;have l9:=λ(fa fa':Int) (h:fa<=fa')=>Sa (hk:=3) (cs:=CS) (cl:=D) (cl':=D) h rfl λ_ _ _ h=>h;have ij:=λ(fa:Int)=>Sa (hk:=3) (cs:=CS) (cl:=D) (cl':=L) (fa:=fa) (fa':=fa) (Int.le_refl _) pc.symm py;have vI:=λ(fa fa':Int) (h:fa<=fa')=>Ek (hk:=3) (cl:=D) hn h;have qH:0<=Jd 3 CS D 0:=XU λq _=>QW ..;refine⟨by omega,by omega,⟨pw,by omega,r6⟩,λc=>?_,λ_=>?_⟩
 .exfalso;have:Js 3 CS D=0\/Js 3 CS D=7:=by unfold Js;split;exact .inr rfl;exact .inl rfl
  rcases this with e|e<;>rw[e] at c<;>simp at c
 refine⟨(D,L,Nn 3 CS D,Js 3 CS D),(0,0,0),by and_intros<;>first|rfl|trivial,?_⟩;refine⟨λd=>∃ k:Nat,k<=7/\d.2.2=k/\(k<=6->d.1<=Jd 3 CS D k/\d.2.1<=((Zj 3 CS D k).length:Int)),λd=>7-d.2.2.toNat,⟨0,by omega,rfl,λ_=>⟨qH,Int.natCast_nonneg _⟩⟩,?_⟩;rintro⟨x,y,_⟩ ⟨k,hk,rfl,hJ⟩;dsimp only at hJ |-;refine⟨λc=>?_,λc=>?_⟩
 .have vJ:k<=6:=by have:=xh c;omega
  obtain⟨j1,j2⟩:=hJ vJ;refine⟨by omega,by omega,⟨pw,by omega,r6,by omega,by omega⟩,by omega,by omega,⟨pw,by omega,r6,by omega,by omega⟩,by omega,by omega,⟨pw,by omega,vF,by omega,by omega⟩,λc2=>?_,λ_=>?_⟩
  .exfalso;have k1:decide (Jd 3 CS D k<x)=false:=xO (by omega);have k2:decide (((Zj 3 CS D k).length:Int)<y)=false:=xO (by omega);have k3:decide (Jd 3 CS L k<Jd 3 CS D k)=false:=xO (by have:=ij k;omega);have k4:(((k:Int)==0)&&decide (Jd 3 CS D k > (CS.length:Int)))=false:=by
    by_cases e:k=0
    .subst e;rw[show decide (Jd 3 CS D ((0:Nat):Int) > (CS.length:Int))=false from xO (by have:Jd 3 CS D 0<=CS.length:=vH;exact Int.not_lt.2 this),Bool.and_false]
    .rw[show ((k:Int)==0)=false from by simp;omega,Bool.false_and]
   rw[k1,k2,k3,k4,bk k (by omega),<-bk k (by omega),vG] at c2;simp at c2
  .refine⟨by rw[Qm];omega,(Jd 3 CS D k,((Zj 3 CS D k).length:Int),((k+1:Nat):Int)),by and_intros<;>first|rfl|trivial,⟨k+1,by omega,rfl,λ_=>⟨l9 _ _ (by omega),?_⟩⟩,by dsimp only;omega⟩;have:=vI (k:Int) ((k+1:Nat):Int) (by omega);dsimp only;omega
 .refine⟨(),(L,0),by and_intros<;>first|rfl|trivial,?_⟩;refine⟨λd=>∃ k:Nat,k<=D.length/\d.2=k/\d.1.length=D.length/\(∀ r∈d.1,-1<=r/\r<8)/\∀ j,j<k->d.1.getD j 0=-1,λd=>D.length-d.2.toNat,⟨0,Nat.zero_le _,rfl,pc,mO,λj hj=>by omega⟩,?_⟩;rintro⟨M,_⟩ ⟨k,hk,rfl,th,r7,r8⟩;dsimp only at th r7 r8 |-;refine⟨λc=>?_,λc=>?_⟩
  .have hk:k<M.length:=by have:=xh c;omega
   refine⟨by omega,by omega,by rw[Qm];omega,(M.set k (-1),((k+1:Nat):Int)),by and_intros<;>first|rfl|trivial,⟨k+1,by omega,rfl,by rw[xK];exact th,aW _ _ _ r7 (by decide) (by decide),λj hj=>?_⟩,by dsimp only;omega⟩;dsimp only;rw[Qh (by rw[xK];omega),List.getElem_set];split
   .rfl
   .rw[<-Qh (d:=0) (show j<M.length by omega)];exact r8 j (by omega)
  .have hk:k=M.length:=by have:=xD c;omega
   have ha:=Q0f (hk:=3) (cs:=CS) (cl:=M) hn λj hj=>r8 j (by omega);rw[ha];refine⟨by omega,⟨pw,by omega,λr hr=>by rw[e8];exact r7 r hr,by decide,by decide⟩,by simp⟩
end Go.Proofs.Tryz