/- A framework for walks, contracts of functions, and their proofs: part 7. -/
import Derived.Test.YtfblnfcecfjbpaaGreatM6L
set_option linter.unusedVariables false
set_option maxRecDepth 100000
namespace Go.Proofs.Tryz
open Go Go.V Go.Proofs
def Sz:AL (Unit):=.nil
def TR (d:Unit):Prop:=True
def TA (d:Unit):SV:=.val .bo true
def TU (d:Unit):List OB:=[]
def Hc:CSp:=Ko Sz TR TA TU
abbrev L0:Prop:=OkC Tryz.prog 15 Hc
theorem SS:L0:=Q6n λ_ _ h=>Q5x h
def Vg:AL (Int×List (Int×Int×Bool)):=(.one (.agg (.cons (.k (.i .i64)) (.one (.k (.list (.pair (.i .i64) (.pair (.i .i64) .bo))))))))
def GO (d:Int×List (Int×Int×Bool)):Prop:=d.2.length<=9223372036854775807
def Kg (d:Int×List (Int×Int×Bool)):SV:=.val .bo true
def Kh (d:Int×List (Int×Int×Bool)):List OB:=[]
def VO:CSp:=Ko Vg GO Kg Kh
def X0 (hk:Int) (cs:List (Int×Int×Bool)):Prop :=
 ((((decide ((lI cs) > (10:Int)))&&(decide ((lI cs)<=(60:Int))))||(decide ((lI cs) > (70:Int))))=true ->
  (True)/\(true=true/\(True))) /\
 ((((decide ((lI cs) > (10:Int)))&&(decide ((lI cs)<=(60:Int))))||(decide ((lI cs) > (70:Int))))=false ->
  (cs.length<=1000)/\(cs.length<=1000)/\(cs.length<=1000/\(Qq hk cs=0->cs.length<=12))/\(cs.length<=9223372036854775807)/\(((Qg hk cs)==(0:Int))=true ->
   (cs.length<=1000)/\(cs.length<=1000)/\((((!(hk==hk&&cs==cs))||((Qq hk cs) != (JG cs)))||((Qq hk cs) != (JG cs)))=true ->
    (false=true/\(True))) /\
   ((((!(hk==hk&&cs==cs))||((Qq hk cs) != (JG cs)))||((Qq hk cs) != (JG cs)))=false ->
    (((JG cs) != (0:Int))=true ->
     (((lI (Dv hk cs))==(0:Int))=true->(J_ hk cs).length<=1000)/\((((lI (Dv hk cs))==(0:Int))&&((Kz hk cs)==(0:Int)&&(J_ hk cs)==([]:List (Int×Int×Bool))))=true->True)/\(((((lI (Dv hk cs))==(0:Int))&&((Kz hk cs)==(0:Int)&&(J_ hk cs)==([]:List (Int×Int×Bool))))&&true)=true/\(True))) /\
    (((JG cs) != (0:Int))=false ->
     (cs.length<=10)/\(false=true->(H0 (nmC cs) cs.length (2 ^ cs.length))=[])/\((Dv hk cs).length<=1000)/\((((Dv hk cs)==(H0 (nmC cs) cs.length (2 ^ cs.length)))=true ->
      ((true=true ->
       (1<=hk/\hk<=24/\cs.length<=60/\∀ c∈cs,QL hk c=true)/\((rmK cs 60).isEmpty=true->(rmK cs 60)=[])/\((J_ hk cs).length<=1000)/\(((Kz hk cs)==hk&&(J_ hk cs)==(rmK cs 60))=true->True)/\((((Kz hk cs)==hk&&(J_ hk cs)==(rmK cs 60))&&true)=true/\(True))) /\
      (true=false ->
       (false=true->True)/\((false&&true)=true/\(True))))) /\
     (((Dv hk cs)==(H0 (nmC cs) cs.length (2 ^ cs.length)))=false ->
      ((false=true ->
       (1<=hk/\hk<=24/\cs.length<=60/\∀ c∈cs,QL hk c=true)/\((rmK cs 60).isEmpty=true->(rmK cs 60)=[])/\((J_ hk cs).length<=1000)/\(((Kz hk cs)==hk&&(J_ hk cs)==(rmK cs 60))=true->True)/\((((Kz hk cs)==hk&&(J_ hk cs)==(rmK cs 60))&&true)=true/\(True))) /\
      (false=false ->
       (false=true->True)/\((false&&true)=true/\(True))))))))) /\
  (((Qg hk cs)==(0:Int))=false ->
   (cs.length<=1000)/\((((!(hk==hk&&cs==cs))||((Qq hk cs) != (Qg hk cs)))||((Qq hk cs) != (Qg hk cs)))=true ->
    (false=true/\(True))) /\
   ((((!(hk==hk&&cs==cs))||((Qq hk cs) != (Qg hk cs)))||((Qq hk cs) != (Qg hk cs)))=false ->
    (((Qg hk cs) != (0:Int))=true ->
     (((lI (Dv hk cs))==(0:Int))=true->(J_ hk cs).length<=1000)/\((((lI (Dv hk cs))==(0:Int))&&((Kz hk cs)==(0:Int)&&(J_ hk cs)==([]:List (Int×Int×Bool))))=true->True)/\(((((lI (Dv hk cs))==(0:Int))&&((Kz hk cs)==(0:Int)&&(J_ hk cs)==([]:List (Int×Int×Bool))))&&true)=true/\(True))) /\
    (((Qg hk cs) != (0:Int))=false ->
     (cs.length<=10)/\(false=true->(H0 (nmC cs) cs.length (2 ^ cs.length))=[])/\((Dv hk cs).length<=1000)/\((((Dv hk cs)==(H0 (nmC cs) cs.length (2 ^ cs.length)))=true ->
      ((true=true ->
       (1<=hk/\hk<=24/\cs.length<=60/\∀ c∈cs,QL hk c=true)/\((rmK cs 60).isEmpty=true->(rmK cs 60)=[])/\((J_ hk cs).length<=1000)/\(((Kz hk cs)==hk&&(J_ hk cs)==(rmK cs 60))=true->True)/\((((Kz hk cs)==hk&&(J_ hk cs)==(rmK cs 60))&&true)=true/\(True))) /\
      (true=false ->
       (false=true->True)/\((false&&true)=true/\(True))))) /\
     (((Dv hk cs)==(H0 (nmC cs) cs.length (2 ^ cs.length)))=false ->
      ((false=true ->
       (1<=hk/\hk<=24/\cs.length<=60/\∀ c∈cs,QL hk c=true)/\((rmK cs 60).isEmpty=true->(rmK cs 60)=[])/\((J_ hk cs).length<=1000)/\(((Kz hk cs)==hk&&(J_ hk cs)==(rmK cs 60))=true->True)/\((((Kz hk cs)==hk&&(J_ hk cs)==(rmK cs 60))&&true)=true/\(True))) /\
      (false=false ->
       (false=true->True)/\((false&&true)=true/\(True))))))))))
def Vr:Cx:=⟨[],[(15,Hc),(16,Bb),(17,N5),(18,Mr),(19,Nn),(20,Vh),(21,Mn),(23,Nl),(22,Gg),(24,Gb)],84,[],0,[],[],[],[],false,[],[],[74,75],[]⟩
def DG (hk:Int) (cs:List (Int×Int×Bool)):List (Nat×LoopAnn):=[]
theorem B9 (d:Int×List (Int×Int×Bool)):gwp (Vr) (DG d.1 d.2) c3 0 (KQ [.tmp 2] (Kg d) (Kh d)) (QI 84 (AL.can Vg d))=X0 d.1 d.2:=by kernel_rfl
abbrev DL:Prop:=OkC Tryz.prog 3 VO
theorem DD (h:∀ (hk:Int) (cs:List (Int×Int×Bool)),(cs.length<=9223372036854775807)->X0 hk cs):OkC Tryz.prog 3 VO :=
 QT fun3 mixed (C:=Vr) (V:=λ(d:Int×List (Int×Int×Bool))=>X0 d.1 d.2) ⟨(.cons SS (.cons Ej (.cons Sg (.cons LY (.cons SE (.cons PI (.cons C5 (.cons S_ (.cons C_ (.cons CE .nil)))))))))),XsOk.nil,ItsOk.nil,YlOk.nil,IysOk.nil,XfOk.nil⟩ (B9) λd hp=>h d.1 d.2 hp
theorem ok_law02_ChainMends:DL:=DD λhk cs h=>by
 have f1:Qq hk cs=0->cs.length<=60:=λe=>by
  have:Qg hk cs=0:=by
   unfold Qq at e;split at e
   .omega
   .omega
  exact(KU this).2.1
 have hb:Qg hk cs≠0->Qq hk cs=Qg hk cs:=λe=>by unfold Qq;rw[z3 e]
 have cy:Qq hk cs≠0->Dv hk cs=[]/\J_ hk cs=[]/\Kz hk cs=0:=λe=>by
  refine⟨?_,?_,?_⟩
  .unfold Dv;rw[z0 e]
  .unfold J_;rw[z0 e]
  .unfold Kz;rw[z0 e]
 have kV:Qq hk cs=0->Dv hk cs=H0 (nmC cs) cs.length (2 ^ cs.length)/\J_ hk cs=rmK cs 60/\Kz hk cs=hk/\(1<=hk/\hk<=24/\cs.length<=60/\∀ c∈cs,QL hk c=true):=λe=>by
  have b0:Qg hk cs=0:=by
   unfold Qq at e;split at e
   .omega
   .omega
  have hz:=KU b0;have e2:=e;unfold Qq at e2;rw[z0 (by omega)] at e2;split at e2
  .omega
  rename_i hm;split at e2
  .rename_i eM;have hb:∀ c∈cs,0<=c.1/\c.1<=59:=λc hc=>by
    have h1:=hz.2.2.2 c hc;unfold QL inI at h1;simp only[z4,zn] at h1;have h2:c.1≠-1:=λe=>hm (zo.2 ⟨c,hc,e⟩);omega
   refine⟨?_,?_,?_,hz.1.1,hz.1.2,hz.2.1,hz.2.2.2⟩
   .unfold Dv;rw[z3 e,Z3e];intro i j hi hj bQ;unfold nmC at bQ;rw[Qc hi,Qc hj] at bQ;have h1:(cs.map (·.1))[i]'(by simpa using hi)=(cs.map (·.1))[j]'(by simpa using hj):=by simpa using bQ
    exact(List.getElem_inj eM).1 h1
   .unfold J_;rw[z3 e,Z0t eM hb]
   .unfold Kz;rw[z3 e]
  .omega
 have hZ:(J_ hk cs).length<=3600:=by
  by_cases e:Qq hk cs=0
  .rw[(kV e).2.1];have h1:=FT (cs:=cs) 60;have h2:=f1 e;have:60*cs.length<=60*60:=Nat.mul_le_mul_left _ h2;omega
  .rw[(cy e).2.1];simp
 have o6:(J_ hk cs).length<=1000:=by
  by_cases e:Qq hk cs=0
  .unfold J_ CJ;rw[z3 e,x6,(Vi (f:=OJ) (a:=0) (z7 cs.length)).length_eq];have:=f1 e;omega
  .rw[(cy e).2.1];simp
 have sH:(Dv hk cs).length<=1000:=by
  by_cases e:Qq hk cs=0
  .unfold Dv;rw[z3 e];have:=FI (nmC cs) cs.length cs.length;have:=f1 e;omega
  .rw[(cy e).1];simp
 have heq:=λb0=>Q1g (hk:=hk) (cs:=cs) b0;unfold X0
 (try delta lI gD sT I64 X4 pj8 pj4)
 repeat (first|refine⟨trivial,?_⟩|refine⟨rfl,?_⟩)
 refine⟨λ_=>by first|trivial|(and_intros<;>trivial),λc=>?_⟩;simp only[Bool.or_eq_false_iff,Bool.and_eq_false_iff,xn] at c;have hlen:cs.length<=70:=by omega
 have l1:cs.length<=1000:=by omega
 have l2:cs.length<=9223372036854775807:=by omega
 have rC:Qq hk cs=0->cs.length<=10:=λe=>by have:=f1 e;omega
 by_cases b0:Qg hk cs=0
 .have hE:=heq b0;by_cases n0:Qq hk cs=0
  .obtain⟨g1,g2,g3,g4,g5,g6,g7⟩:=kV n0;have r0:JG cs=0:=by rw[<-hE];exact n0
   have l3:=rC n0;have l4:cs.length<=12:=by omega
   rw[g2] at o6;rw[g1] at sH;simp[b0,n0,r0,g1,g2,g3,g4,g5,g6,l1,l2,l3,l4,o6,sH];exactλa b=>⟨g7 (a,b,false),g7 (a,b,true)⟩
  .obtain⟨g1,g2,g3⟩:=cy n0;have r0:JG cs≠0:=by rw[<-hE];exact n0
   simp[b0,n0,r0,hE,g1,g2,g3,l1,l2]
 .have hE:=hb b0;have n0:Qq hk cs≠0:=by omega
  obtain⟨g1,g2,g3⟩:=cy n0;simp[b0,n0,hE,g1,g2,g3,l1,l2]
end Go.Proofs.Tryz