/- A framework for walks, contracts of functions, and their proofs: part 7. -/
import Derived.Test.YtfblnfcecfjbpaaGreatR6L
set_option linter.unusedVariables false
set_option maxRecDepth 100000
namespace Go.Proofs.Tryz
open Go Go.V Go.Proofs
def To:AL (Unit):=.nil
def H3 (d:Unit):Prop:=True
def P2 (d:Unit):SV:=.val .bo true
def Hv (d:Unit):List OB:=[]
def Gh:CSp:=YP To H3 P2 Hv
abbrev Tx:Prop:=OkC Tryz.prog 15 Gh
theorem T0:Tx:=Q0h fun _ _ h=>OJ h
def WZ:AL ((Int×List (Int×Int×Bool))×(Int×List Int)×List Int):=(.cons (.agg (.cons (.k (.i .i64)) (.one (.k (.list (.pair (.i .i64) (.pair (.i .i64) .bo))))))) (.cons (.agg (.cons (.k (.i .i64)) (.one (.k (.list (.i .i64)))))) (.one (.k (.list (.i .i64))))))
def Uj (d:(Int×List (Int×Int×Bool))×(Int×List Int)×List Int):Prop:=d.1.2.length≤9223372036854775807∧d.2.1.2.length≤9223372036854775807∧d.2.2.length≤9223372036854775807
def We (d:(Int×List (Int×Int×Bool))×(Int×List Int)×List Int):SV:=.val .bo true
def W8 (d:(Int×List (Int×Int×Bool))×(Int×List Int)×List Int):List OB:=[]
def Yf:CSp:=YP WZ Uj We W8
def ZP (hk:Int) (cs:List (Int×Int×Bool)) (hd:Int) (rows:List Int) (st:List Int):Prop :=
 ((((decide ((lI cs) > (70:Int)))||(decide ((lI rows) > (70:Int))))||(decide ((lI st) > (70:Int))))=true →
  (True)∧(true=true∧(True))) ∧
 ((((decide ((lI cs) > (70:Int)))||(decide ((lI rows) > (70:Int))))||(decide ((lI st) > (70:Int))))=false →
  (cs.length≤1000)∧(false=true→cs=[])∧(rows.length≤1000)∧(false=true→rows=[])∧(st.length≤1000)∧(false=true→st=[])∧((st=st∧True∧True∧True∧(hk=hk∧True∧(([]:List SV)=[]))∧True∧True∧True)∧((hk=hk∧cs=cs∧(([]:List SV)=[]))∧(hd=hd∧rows=rows∧(([]:List SV)=[]))∧((0:Int)=(0:Int)∧True∧(([]:List SV)=[]))∧(cs=cs∧false=false)∧(rows=rows∧false=false)∧(st=st∧false=false)∧True))∧((cs.length≤1000)∧(false=true→cs=[])∧(rows.length≤1000)∧(false=true→rows=[])∧(st.length≤1000)∧(false=true→st=[])∧((st=st∧True∧True∧True∧(hk=hk∧True∧(([]:List SV)=[]))∧True∧True∧True)∧((hk=hk∧cs=cs∧(([]:List SV)=[]))∧(hd=hd∧rows=rows∧(([]:List SV)=[]))∧((0:Int)=(0:Int)∧True∧(([]:List SV)=[]))∧(cs=cs∧false=false)∧(rows=rows∧false=false)∧(st=st∧false=false)∧True)))∧((cs.length≤1000)∧(false=true→cs=[])∧(rows.length≤1000)∧(false=true→rows=[])∧(st.length≤1000)∧(false=true→st=[])∧((st=st∧True∧True∧True∧(hk=hk∧True∧(([]:List SV)=[]))∧True∧True∧True)∧((hk=hk∧cs=cs∧(([]:List SV)=[]))∧(hd=hd∧rows=rows∧(([]:List SV)=[]))∧((0:Int)=(0:Int)∧True∧(([]:List SV)=[]))∧(cs=cs∧false=false)∧(rows=rows∧false=false)∧(st=st∧false=false)∧True)))∧((cs.length≤1000)∧(false=true→cs=[])∧(rows.length≤1000)∧(false=true→rows=[])∧(st.length≤1000)∧(false=true→st=[])∧((st=st∧True∧True∧True∧(hk=hk∧True∧(([]:List SV)=[]))∧True∧True∧True)∧((hk=hk∧cs=cs∧(([]:List SV)=[]))∧(hd=hd∧rows=rows∧(([]:List SV)=[]))∧((0:Int)=(0:Int)∧True∧(([]:List SV)=[]))∧(cs=cs∧false=false)∧(rows=rows∧false=false)∧(st=st∧false=false)∧True)))∧(cs.length≤1000)∧(rows.length≤1000)∧(rows.length≤9223372036854775807)∧(cs.length≤9223372036854775807)∧((((Q7 hk cs) != (Q7 hk cs))||((Z0 hd rows) != (Z0 hd rows)))=false→(KW hd rows).length≤1000)∧(((((Q7 hk cs) != (Q7 hk cs))||((Z0 hd rows) != (Z0 hd rows)))||(!((Y9 hd rows)==(Y9 hd rows)&&(KW hd rows)==(KW hd rows))))=false→rows.length≤1000)∧((((((Q7 hk cs) != (Q7 hk cs))||((Z0 hd rows) != (Z0 hd rows)))||(!((Y9 hd rows)==(Y9 hd rows)&&(KW hd rows)==(KW hd rows))))||(!(rows==rows)))=true →
   (false=true∧(True))) ∧
  ((((((Q7 hk cs) != (Q7 hk cs))||((Z0 hd rows) != (Z0 hd rows)))||(!((Y9 hd rows)==(Y9 hd rows)&&(KW hd rows)==(KW hd rows))))||(!(rows==rows)))=false →
   ((decide ((lI st) > (0:Int)))=true →
    (I64 ((lI st)-(1:Int)))∧(0≤((lI st)-(1:Int)))∧(((lI st)-(1:Int))<(List.length st))∧(cs.length≤1000∧st.length≤1000)∧(cs.length≤9223372036854775807∧st.length≤9223372036854775807)∧((Jl hk cs (gD st ((lI st)-(1:Int)) 0) st).length≤1000)∧(((((Jl hk cs (gD st ((lI st)-(1:Int)) 0) st)==(Jl hk cs (gD st ((lI st)-(1:Int)) 0) st))&&((Zc hk cs (gD st ((lI st)-(1:Int)) 0) st)==(Zc hk cs (gD st ((lI st)-(1:Int)) 0) st)))&&((Qe hk cs (gD st ((lI st)-(1:Int)) 0) st)==(Qe hk cs (gD st ((lI st)-(1:Int)) 0) st)))=true→cs.length≤1000)∧((((((Jl hk cs (gD st ((lI st)-(1:Int)) 0) st)==(Jl hk cs (gD st ((lI st)-(1:Int)) 0) st))&&((Zc hk cs (gD st ((lI st)-(1:Int)) 0) st)==(Zc hk cs (gD st ((lI st)-(1:Int)) 0) st)))&&((Qe hk cs (gD st ((lI st)-(1:Int)) 0) st)==(Qe hk cs (gD st ((lI st)-(1:Int)) 0) st)))&&(hk==hk&&cs==cs))=true→st.length≤1000)∧(((((((Jl hk cs (gD st ((lI st)-(1:Int)) 0) st)==(Jl hk cs (gD st ((lI st)-(1:Int)) 0) st))&&((Zc hk cs (gD st ((lI st)-(1:Int)) 0) st)==(Zc hk cs (gD st ((lI st)-(1:Int)) 0) st)))&&((Qe hk cs (gD st ((lI st)-(1:Int)) 0) st)==(Qe hk cs (gD st ((lI st)-(1:Int)) 0) st)))&&(hk==hk&&cs==cs))&&(st==st))=true→True)∧((((((((Jl hk cs (gD st ((lI st)-(1:Int)) 0) st)==(Jl hk cs (gD st ((lI st)-(1:Int)) 0) st))&&((Zc hk cs (gD st ((lI st)-(1:Int)) 0) st)==(Zc hk cs (gD st ((lI st)-(1:Int)) 0) st)))&&((Qe hk cs (gD st ((lI st)-(1:Int)) 0) st)==(Qe hk cs (gD st ((lI st)-(1:Int)) 0) st)))&&(hk==hk&&cs==cs))&&(st==st))&&true)=true∧(True))) ∧
   ((decide ((lI st) > (0:Int)))=false →
    (cs.length≤1000∧st.length≤1000)∧(cs.length≤9223372036854775807∧st.length≤9223372036854775807)∧((Jl hk cs (0:Int) st).length≤1000)∧(((((Jl hk cs (0:Int) st)==(Jl hk cs (0:Int) st))&&((Zc hk cs (0:Int) st)==(Zc hk cs (0:Int) st)))&&((Qe hk cs (0:Int) st)==(Qe hk cs (0:Int) st)))=true→cs.length≤1000)∧((((((Jl hk cs (0:Int) st)==(Jl hk cs (0:Int) st))&&((Zc hk cs (0:Int) st)==(Zc hk cs (0:Int) st)))&&((Qe hk cs (0:Int) st)==(Qe hk cs (0:Int) st)))&&(hk==hk&&cs==cs))=true→st.length≤1000)∧(((((((Jl hk cs (0:Int) st)==(Jl hk cs (0:Int) st))&&((Zc hk cs (0:Int) st)==(Zc hk cs (0:Int) st)))&&((Qe hk cs (0:Int) st)==(Qe hk cs (0:Int) st)))&&(hk==hk&&cs==cs))&&(st==st))=true→True)∧((((((((Jl hk cs (0:Int) st)==(Jl hk cs (0:Int) st))&&((Zc hk cs (0:Int) st)==(Zc hk cs (0:Int) st)))&&((Qe hk cs (0:Int) st)==(Qe hk cs (0:Int) st)))&&(hk==hk&&cs==cs))&&(st==st))&&true)=true∧(True)))))
def Y1:Cx:=⟨[],[(15,Gh),(16,G2),(25,NC),(57,VL),(47,Vw),(58,Vp),(19,YD),(21,Nn),(22,US),(48,Vs),(59,VM)],133,[],0,[],[],[],[2,3,4,7,39,42,44],false,[],[],[],[]⟩
def Nu (hk:Int) (cs:List (Int×Int×Bool)) (hd:Int) (rows:List Int) (st:List Int):List (Nat×LoopAnn):=[]
theorem N5 (d:(Int×List (Int×Int×Bool))×(Int×List Int)×List Int):gwp (Y1) (Nu d.1.1 d.1.2 d.2.1.1 d.2.1.2 d.2.2) c14 0 (Kl [.tmp 6] (We d) (W8 d)) (QC 133 (AL.can WZ d))=ZP d.1.1 d.1.2 d.2.1.1 d.2.1.2 d.2.2:=by kernel_rfl
abbrev N7:Prop:=OkC Tryz.prog 14 Yf
theorem UE (h:∀ (hk:Int) (cs:List (Int×Int×Bool)) (hd:Int) (rows:List Int) (st:List Int),(cs.length≤9223372036854775807∧rows.length≤9223372036854775807∧st.length≤9223372036854775807)→ZP hk cs hd rows st):OkC Tryz.prog 14 Yf :=
 QP fun14 mixed (C:=Y1) (V:=fun (d:(Int×List (Int×Int×Bool))×(Int×List Int)×List Int)=>ZP d.1.1 d.1.2 d.2.1.1 d.2.1.2 d.2.2) ⟨(.cons T0 (.cons SC (.cons Ro (.cons PQ (.cons PG (.cons PJ (.cons Mx (.cons Rv (.cons RJ (.cons Tg (.cons Pz .nil))))))))))),XsOk.nil,ItsOk.nil,YlOk.nil,IysOk.nil,XfOk.nil⟩ (N5) fun d hp=>h d.1.1 d.1.2 d.2.1.1 d.2.1.2 d.2.2 hp
theorem ok_law02_ChainPunches:N7:=UE fun hk cs hd rows st h=>by
 obtain⟨h1,h2,h3⟩:=h;have hp:rows.length≤70→(KW hd rows).length≤1000:=fun hr=>by
  unfold KW;split
  ·have:(Q8t rows).length=rows.length:=by simp[Q8t]
   omega
  ·simp
 have hw:∀ a,st.length≤70→(Jl hk cs a st).length≤1000:=fun a hs=>by
  unfold Jl;split
  ·have:(Dn hk cs a st st.length).length=st.length:=Hr ..;omega
  ·simp
 unfold ZP
 (try delta lI gD sT I64 Kq pj8 pj4)
 repeat (first|refine⟨trivial,?_⟩|refine⟨rfl,?_⟩)
 refine⟨fun _=>by first|trivial|(and_intros<;>trivial),fun c=>?_⟩;simp only[Bool.or_eq_false_iff,decide_eq_false_iff_not] at c;have hc:cs.length≤70:=by omega
 have hr:rows.length≤70:=by omega
 have hs:st.length≤70:=by omega
 have l1:cs.length≤1000:=by omega
 have l2:rows.length≤1000:=by omega
 have l3:st.length≤1000:=by omega
 have l4:=hp hr;have l5:=fun a=>hw a hs;clear c hp hw;simp[l1,l2,l3,l4,l5,h1,h2,h3];refine fun aA=>?_;rw[Qx];omega
end Go.Proofs.Tryz