/- A framework for walks, contracts of functions, and their proofs: part 6. -/
import Derived.ProofKit
import Derived.OpenShut
import Derived.LaidMore
import Derived.Carry
import Derived.Lib.SmallJoins
import Derived.Deep.Slices
import Derived.Test.YtfblnfcecfjbpaaGreatR5
noncomputable section
set_option linter.unusedVariables false
set_option maxRecDepth 100000
namespace Go.Proofs.Tryz
open Go Go.V Go.Proofs
def ME:AL (Int×List Int):=(.one (.agg (.cons (.k (.i .i64)) (.one (.k (.list (.i .i64)))))))
def HX (d:Int×List Int):Prop:=d.2.length≤1000
def UT (d:Int×List Int):SV:=.tup [.agg [.val (.i .i64) (Y9 d.1 d.2),.lst 0],.val (.i .i64) (Z0 d.1 d.2)]
def Na (d:Int×List Int):List OB:=[.lst 87 (.pair (.i .i64) (.pair (.i .i64) .bo)) (KW d.1 d.2) ((KW d.1 d.2).isEmpty)]
def Vw:CSp:=YP ME HX UT Na
def WL (hk:Int) (rows:List Int):Prop :=
 (True)∧((!(inI hk 1 24))=true →
  ((((0:Int)=(Y9 hk rows)∧True∧(([]:List SV)=[]))∧(2:Int)=(Z0 hk rows)∧(([]:List SV)=[]))∧(((KW hk rows)=[]∧(KW hk rows).isEmpty=true)∧True))) ∧
 ((!(inI hk 1 24))=false →
  ((decide ((lI rows) > (60:Int)))=true →
   ((((0:Int)=(Y9 hk rows)∧True∧(([]:List SV)=[]))∧(5:Int)=(Z0 hk rows)∧(([]:List SV)=[]))∧(((KW hk rows)=[]∧(KW hk rows).isEmpty=true)∧True))) ∧
  ((decide ((lI rows) > (60:Int)))=false →
   (((lI rows)==(0:Int))=true →
    ((((0:Int)=(Y9 hk rows)∧True∧(([]:List SV)=[]))∧(7:Int)=(Z0 hk rows)∧(([]:List SV)=[]))∧(((KW hk rows)=[]∧(KW hk rows).isEmpty=true)∧True))) ∧
   (((lI rows)==(0:Int))=false →
    (1≤hk∧hk≤24∧rows.length≤1000000)∧((!(!(rows.any fun n=>!inI n 0 (2 ^ hk.toNat-1))))=true →
     ((((0:Int)=(Y9 hk rows)∧True∧(([]:List SV)=[]))∧(2:Int)=(Z0 hk rows)∧(([]:List SV)=[]))∧(((KW hk rows)=[]∧(KW hk rows).isEmpty=true)∧True))) ∧
    ((!(!(rows.any fun n=>!inI n 0 (2 ^ hk.toNat-1))))=false →
     ∃ (e4:Unit) (d40:(List (Int×Int×Bool))×Int),((True∧rows=rows∧(lI rows)=(lI rows)∧(0:Int)=d40.2∧True)∧((hk=hk∧True∧(([]:List SV)=[]))∧(d40.1=[]∧(List.isEmpty d40.1)=true)∧True)) ∧
     LoopP (fun (d4:(List (Int×Int×Bool))×Int) (q4:((List (Int×Int×Bool))×Int)→Prop) =>
      ((decide (d4.2<(lI rows)))=true →
       (0≤d4.2)∧(d4.2<(List.length rows))∧(((List.length d4.1)+(List.length [(d4.2,((gD rows d4.2 0),false))]))*24≤70368744177664)∧(I64 (d4.2+(1:Int)))∧(∃ d5:(List (Int×Int×Bool))×Int,((True∧rows=rows∧(lI rows)=(lI rows)∧(d4.2+(1:Int))=d5.2∧True)∧((hk=hk∧True∧(([]:List SV)=[]))∧((d4.1++[(d4.2,((gD rows d4.2 0),false))])=d5.1∧false=(List.isEmpty d5.1))∧True))∧q4 d5)) ∧
      ((decide (d4.2<(lI rows)))=false →
       (((hk=(Y9 hk rows)∧True∧(([]:List SV)=[]))∧(0:Int)=(Z0 hk rows)∧(([]:List SV)=[]))∧((d4.1=(KW hk rows)∧(List.isEmpty d4.1)=(KW hk rows).isEmpty)∧True)))) d40))))
def Mn:Cx:=⟨[(87,(.pair (.i .i64) (.pair (.i .i64) .bo)))],[(87,Qz),(102,Z8)],54,[],0,[],[],[],[],false,[],[],[],[]⟩
def PF (hk:Int) (rows:List Int):List (Nat×LoopAnn):=[(1,⟨Unit,(List (Int×Int×Bool))×Int,[2,37,38,39],fun e x=>[.box 2 0,.val (.list (.i .i64)) rows,.val (.i .i64) (((List.length rows):Nat):Int),.val (.i .i64) x.2],fun e x=>[(2,.slot 2,.cells [.val (.i .i64) hk,.lst 50] (some 24)),(50,.cell 2 1,.lst 87 (.pair (.i .i64) (.pair (.i .i64) .bo)) x.1 (List.isEmpty x.1))]⟩)]
theorem Px (d:Int×List Int):gwp (Mn) (PF d.1 d.2) c47 0 (Kl [.cell 2 true 2,.tmp 3] (UT d) (Na d)) (QC 54 (AL.can ME d))=WL d.1 d.2:=by kernel_rfl
abbrev PC:Prop:=OkC Tryz.prog 47 Vw
theorem T9 (h:∀ (hk:Int) (rows:List Int),(rows.length≤1000)→WL hk rows):OkC Tryz.prog 47 Vw :=
 QP Q4z mixed (C:=Mn) (V:=fun (d:Int×List Int)=>WL d.1 d.2) ⟨(.cons Q_ (.cons Jt .nil)),XsOk.nil,ItsOk.nil,YlOk.nil,IysOk.nil,XfOk.nil⟩ (Px) fun d hp=>h d.1 d.2 hp
theorem PG:PC:=T9 fun hk rows h=>by
 unfold WL;(try delta lI gD sT I64 Kq pj8 pj4);simp only[true_and,and_true,Bool.not_not];refine⟨fun c=>?_,fun c=>⟨fun c2=>?_,fun c2=>⟨fun c3=>?_,fun c3=>⟨?_,fun c4=>?_,fun c4=>?_⟩⟩⟩⟩
 ·exact N4 (by unfold Z0;rw[if_pos c]) (by omega)
 ·have c2:=of_decide_eq_true c2;exact N4 (by unfold Z0;rw[if_neg (by rw[c];decide),if_pos (by omega)]) (by omega)
 ·have c2:=of_decide_eq_false c2;have c3:rows=[]:=List.eq_nil_of_length_eq_zero (by have:=of_decide_eq_true c3;omega);exact N4 (by unfold Z0;rw[if_neg (by rw[c];decide),if_neg (by omega),if_pos c3]) (by omega)
 ·have c:=V_ c;exact⟨c.1,c.2,by omega⟩
 ·have c2:=of_decide_eq_false c2;have c3:rows≠[]:=fun e=>by rw[e] at c3;cases c3
  exact N4 (by unfold Z0;rw[if_neg (by rw[c];decide),if_neg (by omega),if_neg c3,if_pos c4]) (by omega)
 ·have c2:=of_decide_eq_false c2;have c3:rows≠[]:=fun e=>by rw[e] at c3;cases c3
  have e0:Z0 hk rows=0:=by unfold Z0;rw[if_neg (by rw[c];decide),if_neg (by omega),if_neg c3,if_neg (by rw[c4];decide)]
  have e1:Y9 hk rows=hk:=by unfold Y9;rw[if_pos e0]
  have e2:KW hk rows=Q8t rows:=by unfold KW;rw[if_pos e0]
  rw[e0,e1,e2];refine⟨(),([],0),(by and_intros<;>first|rfl|trivial),?_⟩;refine LoopP.count2 rows.length (fun k l=>l=Ot rows k) rfl ?_;rintro k l hk hJ q hq;subst hJ;dsimp only;simp only[Int.toNat_natCast];refine⟨fun g=>?_,fun g=>?_⟩
  ·have g:k<rows.length:=by have:=of_decide_eq_true g;omega
   have hl:=AM rows k;refine⟨by omega,by omega,by simp only[List.length_cons,List.length_nil];omega,by simp only[Qx];omega,(Ot rows (k+1),(k:Int)+1),?_,hq _ g rfl⟩;rw[LC];and_intros<;>first|rfl|trivial|simp
  ·have g:k=rows.length:=by have:=of_decide_eq_false g;omega
   subst g;exact(by and_intros<;>first|rfl|trivial|simp)
def K3:AL ((Int×(List (Int×Int×Bool))×Int)×Int):=(.cons (.agg (.cons (.k (.i .i64)) (.cons (.k (.list (.pair (.i .i64) (.pair (.i .i64) .bo)))) (.one (.k (.i .i64)))))) (.one (.k (.i .i64))))
def M3 (d:(Int×(List (Int×Int×Bool))×Int)×Int):Prop:=1≤d.1.2.2∧d.1.2.2≤24∧0≤d.2∧d.2<d.1.2.1.length∧∀ c∈d.1.2.1,QM d.1.2.2 c=true
def Yj (d:(Int×(List (Int×Int×Bool))×Int)×Int):SV:=.val (.i .i64) (Ym d.1.2.2 (d.1.2.1.getD d.2.toNat XG))
def Ye (d:(Int×(List (Int×Int×Bool))×Int)×Int):List OB:=[]
def JB:CSp:=YP K3 M3 Yj Ye
def Jf (hk:Int) (cs:List (Int×Int×Bool)) (f:Int) (at_:Int):Prop :=
 (0≤at_)∧(at_<(List.length cs))∧((gD cs at_ (0,(0,false))).2.2=true →
  (1≤f∧f≤24∧0≤((gD cs at_ (0,(0,false))).2.1)∧((gD cs at_ (0,(0,false))).2.1)<2 ^ f.toNat)∧((Q6f f ((gD cs at_ (0,(0,false))).2.1))=(Ym f (cs.getD at_.toNat XG))∧(True))) ∧
 ((gD cs at_ (0,(0,false))).2.2=false →
  (0≤at_)∧(at_<(List.length cs))∧((gD cs at_ (0,(0,false))).2.1=(Ym f (cs.getD at_.toNat XG))∧(True)))
def YZ:Cx:=⟨[],[(137,X0)],26,[],0,[],[],[],[],false,[],[],[],[]⟩
def G0 (hk:Int) (cs:List (Int×Int×Bool)) (f:Int) (at_:Int):List (Nat×LoopAnn):=[]
theorem MS (d:(Int×(List (Int×Int×Bool))×Int)×Int):gwp (YZ) (G0 d.1.1 d.1.2.1 d.1.2.2 d.2) Q9v 0 (Kl [.tmp 4] (Yj d) (Ye d)) (QC 26 (AL.can K3 d))=Jf d.1.1 d.1.2.1 d.1.2.2 d.2:=by kernel_rfl
abbrev MZ:Prop:=OkC Tryz.prog 104 JB
theorem MX (h:∀ (hk:Int) (cs:List (Int×Int×Bool)) (f:Int) (at_:Int),(1≤f∧f≤24∧0≤at_∧at_<cs.length∧∀ c∈cs,QM f c=true)→Jf hk cs f at_):OkC Tryz.prog 104 JB :=
 QP F7 mixed (C:=YZ) (V:=fun (d:(Int×(List (Int×Int×Bool))×Int)×Int)=>Jf d.1.1 d.1.2.1 d.1.2.2 d.2) ⟨(.cons N9 .nil),XsOk.nil,ItsOk.nil,YlOk.nil,IysOk.nil,XfOk.nil⟩ (MS) fun d hp=>h d.1.1 d.1.2.1 d.1.2.2 d.2 hp
theorem YX:MZ:=MX fun hk cs f at_ h=>by
 obtain⟨h1,h2,h3,h4,h5⟩:=h;unfold Jf;(try delta lI gD sT I64 Kq pj8 pj4);have hd:∀ j,cs.getD j (0,(0,false))=cs.getD j XG:=fun _=>rfl;have hj:at_.toNat<cs.length:=by omega
 have hc:=R8 (h5 _ (show cs.getD at_.toNat XG∈cs by rw[Qk hj];exact List.getElem_mem hj));simp only[hd,and_true];refine⟨h3,by omega,fun c=>⟨⟨h1,h2,hc.1,hc.2⟩,?_⟩,fun c=>⟨h3,by omega,?_⟩⟩
 ·unfold Ym;rw[if_pos c]
 ·unfold Ym;rw[if_neg (by rw[c];decide)]
def Kc:AL ((Int×(List (Int×Int×Bool))×Int)×Int×Int):=(.cons (.agg (.cons (.k (.i .i64)) (.cons (.k (.list (.pair (.i .i64) (.pair (.i .i64) .bo)))) (.one (.k (.i .i64)))))) (.cons (.k (.i .i64)) (.one (.k (.i .i64)))))
def M4 (d:(Int×(List (Int×Int×Bool))×Int)×Int×Int):Prop:=d.1.2.1≠[]∧d.1.2.1.length≤1000∧-1000000≤d.2.1∧d.2.1≤1000000∧-1000000≤d.2.2∧d.2.2≤1000000
def Yg (d:(Int×(List (Int×Int×Bool))×Int)×Int×Int):SV:=.val (.i .i64) (Int.tmod (d.2.1+d.2.2) d.1.2.1.length)
def Yi (d:(Int×(List (Int×Int×Bool))×Int)×Int×Int):List OB:=[]
def JC:CSp:=YP Kc M4 Yg Yi
def Jh (hk:Int) (cs:List (Int×Int×Bool)) (f:Int) (at_:Int) (st:Int):Prop :=
 (I64 (at_+st))∧((lI cs)≠0)∧((Int.tmod (at_+st) (lI cs))=(Int.tmod (at_+st) cs.length)∧(True))
def K9:Cx:=⟨[],[],15,[],0,[],[],[],[],false,[],[],[],[]⟩
def MT (hk:Int) (cs:List (Int×Int×Bool)) (f:Int) (at_:Int) (st:Int):List (Nat×LoopAnn):=[]
theorem G5 (d:(Int×(List (Int×Int×Bool))×Int)×Int×Int):gwp (K9) (MT d.1.1 d.1.2.1 d.1.2.2 d.2.1 d.2.2) c78 0 (Kl [.tmp 6] (Yg d) (Yi d)) (QC 15 (AL.can Kc d))=Jh d.1.1 d.1.2.1 d.1.2.2 d.2.1 d.2.2:=by kernel_rfl
abbrev MV:Prop:=OkC Tryz.prog 78 JC
theorem G3 (h:∀ (hk:Int) (cs:List (Int×Int×Bool)) (f:Int) (at_:Int) (st:Int),(cs≠[]∧cs.length≤1000∧-1000000≤at_∧at_≤1000000∧-1000000≤st∧st≤1000000)→Jh hk cs f at_ st):OkC Tryz.prog 78 JC :=
 QP Q4b mixed (C:=K9) (V:=fun (d:(Int×(List (Int×Int×Bool))×Int)×Int×Int)=>Jh d.1.1 d.1.2.1 d.1.2.2 d.2.1 d.2.2) ⟨.nil,XsOk.nil,ItsOk.nil,YlOk.nil,IysOk.nil,XfOk.nil⟩ (G5) fun d hp=>h d.1.1 d.1.2.1 d.1.2.2 d.2.1 d.2.2 hp
theorem YL:MV:=G3 fun hk cs f at_ st h=>by obtain⟨h1,h2,h3,h4,h5,h6⟩:=h;unfold Jh;(try delta lI gD sT I64 Kq pj8 pj4);have:=List.length_pos_iff.2 h1;exact⟨by simp only[Qx];omega,by omega,rfl,trivial⟩
def Mr:AL ((Int×List (Int×Int×Bool))×Int×List Int):=(.cons (.agg (.cons (.k (.i .i64)) (.one (.k (.list (.pair (.i .i64) (.pair (.i .i64) .bo))))))) (.cons (.k (.i .i64)) (.one (.k (.list (.i .i64))))))
def HJ (d:(Int×List (Int×Int×Bool))×Int×List Int):Prop:=d.1.2.length≤1000∧d.2.2.length≤1000
def ND (d:(Int×List (Int×Int×Bool))×Int×List Int):SV:=.tup [.lst 0,.val (.i .i64) (Zc d.1.1 d.1.2 d.2.1 d.2.2),.val (.i .i64) (Qe d.1.1 d.1.2 d.2.1 d.2.2)]
def Nr (d:(Int×List (Int×Int×Bool))×Int×List Int):List OB:=[.lst 3 (.i .i64) (Jl d.1.1 d.1.2 d.2.1 d.2.2) ((Jl d.1.1 d.1.2 d.2.1 d.2.2).isEmpty)]
def Vs:CSp:=YP Mr HJ ND Nr
def WR (hk:Int) (cs:List (Int×Int×Bool)) (a:Int) (st:List Int):Prop :=
 ∀ w1:List Value,(True)∧((!(inI hk 1 24))=true →
  w1=w1∧(((3:Int) != (0:Int))=true →
   ((True∧(0:Int)=(Zc hk cs a st)∧(3:Int)=(Qe hk cs a st)∧(([]:List SV)=[]))∧(((Jl hk cs a st)=[]∧(Jl hk cs a st).isEmpty=true)∧True))) ∧
  (((3:Int) != (0:Int))=false →
   (I64 ((lI cs)-(1:Int)))∧([a].length≤1000000)∧((!(!([a].any fun n=>decide (n<(0:Int))||decide (((lI cs)-(1:Int))<n))))=true →
    ((True∧(0:Int)=(Zc hk cs a st)∧(7:Int)=(Qe hk cs a st)∧(([]:List SV)=[]))∧(((Jl hk cs a st)=[]∧(Jl hk cs a st).isEmpty=true)∧True))) ∧
   ((!(!([a].any fun n=>decide (n<(0:Int))||decide (((lI cs)-(1:Int))<n))))=false →
    ((decide ((lI st) > (60:Int)))=true →
     ((True∧(0:Int)=(Zc hk cs a st)∧(5:Int)=(Qe hk cs a st)∧(([]:List SV)=[]))∧(((Jl hk cs a st)=[]∧(Jl hk cs a st).isEmpty=true)∧True))) ∧
    ((decide ((lI st) > (60:Int)))=false →
     (st.length≤1000000)∧((!(!(st.any fun n=>decide (n<(0:Int))||decide ((2:Int)<n))))=true →
      ((True∧(0:Int)=(Zc hk cs a st)∧(2:Int)=(Qe hk cs a st)∧(([]:List SV)=[]))∧(((Jl hk cs a st)=[]∧(Jl hk cs a st).isEmpty=true)∧True))) ∧
     ((!(!(st.any fun n=>decide (n<(0:Int))||decide ((2:Int)<n))))=false →
      ∃ (e5:Unit) (d50:(List Int)×Int×Int),((True∧a=d50.2.1∧True∧st=st∧(lI st)=(lI st)∧(0:Int)=d50.2.2∧True)∧((d50.1=[]∧(List.isEmpty d50.1)=true)∧(hk=hk∧cs=cs∧hk=hk∧(([]:List SV)=[]))∧True)) ∧
      LoopP (fun (d5:(List Int)×Int×Int) (q5:((List Int)×Int×Int)→Prop) =>
       ((decide (d5.2.2<(lI st)))=true →
        (0≤d5.2.2)∧(d5.2.2<(List.length st))∧(1≤hk∧hk≤24∧0≤d5.2.1∧d5.2.1<cs.length∧∀ c∈cs,QM hk c=true)∧(((List.length d5.1)+(List.length [(Ym hk (cs.getD d5.2.1.toNat XG))]))*8≤70368744177664)∧(cs≠[]∧cs.length≤1000∧-1000000≤d5.2.1∧d5.2.1≤1000000∧-1000000≤(gD st d5.2.2 0)∧(gD st d5.2.2 0)≤1000000)∧(I64 (d5.2.2+(1:Int)))∧(∃ d6:(List Int)×Int×Int,((True∧(Int.tmod (d5.2.1+(gD st d5.2.2 0)) cs.length)=d6.2.1∧True∧st=st∧(lI st)=(lI st)∧(d5.2.2+(1:Int))=d6.2.2∧True)∧(((d5.1++[(Ym hk (cs.getD d5.2.1.toNat XG))])=d6.1∧false=(List.isEmpty d6.1))∧(hk=hk∧cs=cs∧hk=hk∧(([]:List SV)=[]))∧True))∧q5 d6)) ∧
       ((decide (d5.2.2<(lI st)))=false →
        ((True∧d5.2.1=(Zc hk cs a st)∧(0:Int)=(Qe hk cs a st)∧(([]:List SV)=[]))∧((d5.1=(Jl hk cs a st)∧(List.isEmpty d5.1)=(Jl hk cs a st).isEmpty)∧True)))) d50))))) ∧
 ((!(inI hk 1 24))=false →
  ((decide ((lI cs) > (60:Int)))=true →
   w1=w1∧(((5:Int) != (0:Int))=true →
    ((True∧(0:Int)=(Zc hk cs a st)∧(5:Int)=(Qe hk cs a st)∧(([]:List SV)=[]))∧(((Jl hk cs a st)=[]∧(Jl hk cs a st).isEmpty=true)∧True))) ∧
   (((5:Int) != (0:Int))=false →
    (I64 ((lI cs)-(1:Int)))∧([a].length≤1000000)∧((!(!([a].any fun n=>decide (n<(0:Int))||decide (((lI cs)-(1:Int))<n))))=true →
     ((True∧(0:Int)=(Zc hk cs a st)∧(7:Int)=(Qe hk cs a st)∧(([]:List SV)=[]))∧(((Jl hk cs a st)=[]∧(Jl hk cs a st).isEmpty=true)∧True))) ∧
    ((!(!([a].any fun n=>decide (n<(0:Int))||decide (((lI cs)-(1:Int))<n))))=false →
     ((decide ((lI st) > (60:Int)))=true →
      ((True∧(0:Int)=(Zc hk cs a st)∧(5:Int)=(Qe hk cs a st)∧(([]:List SV)=[]))∧(((Jl hk cs a st)=[]∧(Jl hk cs a st).isEmpty=true)∧True))) ∧
     ((decide ((lI st) > (60:Int)))=false →
      (st.length≤1000000)∧((!(!(st.any fun n=>decide (n<(0:Int))||decide ((2:Int)<n))))=true →
       ((True∧(0:Int)=(Zc hk cs a st)∧(2:Int)=(Qe hk cs a st)∧(([]:List SV)=[]))∧(((Jl hk cs a st)=[]∧(Jl hk cs a st).isEmpty=true)∧True))) ∧
      ((!(!(st.any fun n=>decide (n<(0:Int))||decide ((2:Int)<n))))=false →
       ∃ (aU:Unit) (d100:(List Int)×Int×Int),((True∧a=d100.2.1∧True∧st=st∧(lI st)=(lI st)∧(0:Int)=d100.2.2∧True)∧((d100.1=[]∧(List.isEmpty d100.1)=true)∧(hk=hk∧cs=cs∧hk=hk∧(([]:List SV)=[]))∧True)) ∧
       LoopP (fun (d10:(List Int)×Int×Int) (l7:((List Int)×Int×Int)→Prop) =>
        ((decide (d10.2.2<(lI st)))=true →
         (0≤d10.2.2)∧(d10.2.2<(List.length st))∧(1≤hk∧hk≤24∧0≤d10.2.1∧d10.2.1<cs.length∧∀ c∈cs,QM hk c=true)∧(((List.length d10.1)+(List.length [(Ym hk (cs.getD d10.2.1.toNat XG))]))*8≤70368744177664)∧(cs≠[]∧cs.length≤1000∧-1000000≤d10.2.1∧d10.2.1≤1000000∧-1000000≤(gD st d10.2.2 0)∧(gD st d10.2.2 0)≤1000000)∧(I64 (d10.2.2+(1:Int)))∧(∃ d11:(List Int)×Int×Int,((True∧(Int.tmod (d10.2.1+(gD st d10.2.2 0)) cs.length)=d11.2.1∧True∧st=st∧(lI st)=(lI st)∧(d10.2.2+(1:Int))=d11.2.2∧True)∧(((d10.1++[(Ym hk (cs.getD d10.2.1.toNat XG))])=d11.1∧false=(List.isEmpty d11.1))∧(hk=hk∧cs=cs∧hk=hk∧(([]:List SV)=[]))∧True))∧l7 d11)) ∧
        ((decide (d10.2.2<(lI st)))=false →
         ((True∧d10.2.1=(Zc hk cs a st)∧(0:Int)=(Qe hk cs a st)∧(([]:List SV)=[]))∧((d10.1=(Jl hk cs a st)∧(List.isEmpty d10.1)=(Jl hk cs a st).isEmpty)∧True)))) d100))))) ∧
  ((decide ((lI cs) > (60:Int)))=false →
   (1≤hk∧hk≤24∧cs.length≤1000000)∧((!(!cs.isEmpty&&!(cs.any fun c=>!QM hk c)))=true →
    w1=w1∧(((2:Int) != (0:Int))=true →
     ((True∧(0:Int)=(Zc hk cs a st)∧(2:Int)=(Qe hk cs a st)∧(([]:List SV)=[]))∧(((Jl hk cs a st)=[]∧(Jl hk cs a st).isEmpty=true)∧True))) ∧
    (((2:Int) != (0:Int))=false →
     (I64 ((lI cs)-(1:Int)))∧([a].length≤1000000)∧((!(!([a].any fun n=>decide (n<(0:Int))||decide (((lI cs)-(1:Int))<n))))=true →
      ((True∧(0:Int)=(Zc hk cs a st)∧(7:Int)=(Qe hk cs a st)∧(([]:List SV)=[]))∧(((Jl hk cs a st)=[]∧(Jl hk cs a st).isEmpty=true)∧True))) ∧
     ((!(!([a].any fun n=>decide (n<(0:Int))||decide (((lI cs)-(1:Int))<n))))=false →
      ((decide ((lI st) > (60:Int)))=true →
       ((True∧(0:Int)=(Zc hk cs a st)∧(5:Int)=(Qe hk cs a st)∧(([]:List SV)=[]))∧(((Jl hk cs a st)=[]∧(Jl hk cs a st).isEmpty=true)∧True))) ∧
      ((decide ((lI st) > (60:Int)))=false →
       (st.length≤1000000)∧((!(!(st.any fun n=>decide (n<(0:Int))||decide ((2:Int)<n))))=true →
        ((True∧(0:Int)=(Zc hk cs a st)∧(2:Int)=(Qe hk cs a st)∧(([]:List SV)=[]))∧(((Jl hk cs a st)=[]∧(Jl hk cs a st).isEmpty=true)∧True))) ∧
       ((!(!(st.any fun n=>decide (n<(0:Int))||decide ((2:Int)<n))))=false →
        ∃ (aN:Unit) (d150:(List Int)×Int×Int),((True∧a=d150.2.1∧True∧st=st∧(lI st)=(lI st)∧(0:Int)=d150.2.2∧True)∧((d150.1=[]∧(List.isEmpty d150.1)=true)∧(hk=hk∧cs=cs∧hk=hk∧(([]:List SV)=[]))∧True)) ∧
        LoopP (fun (d15:(List Int)×Int×Int) (oE:((List Int)×Int×Int)→Prop) =>
         ((decide (d15.2.2<(lI st)))=true →
          (0≤d15.2.2)∧(d15.2.2<(List.length st))∧(1≤hk∧hk≤24∧0≤d15.2.1∧d15.2.1<cs.length∧∀ c∈cs,QM hk c=true)∧(((List.length d15.1)+(List.length [(Ym hk (cs.getD d15.2.1.toNat XG))]))*8≤70368744177664)∧(cs≠[]∧cs.length≤1000∧-1000000≤d15.2.1∧d15.2.1≤1000000∧-1000000≤(gD st d15.2.2 0)∧(gD st d15.2.2 0)≤1000000)∧(I64 (d15.2.2+(1:Int)))∧(∃ d16:(List Int)×Int×Int,((True∧(Int.tmod (d15.2.1+(gD st d15.2.2 0)) cs.length)=d16.2.1∧True∧st=st∧(lI st)=(lI st)∧(d15.2.2+(1:Int))=d16.2.2∧True)∧(((d15.1++[(Ym hk (cs.getD d15.2.1.toNat XG))])=d16.1∧false=(List.isEmpty d16.1))∧(hk=hk∧cs=cs∧hk=hk∧(([]:List SV)=[]))∧True))∧oE d16)) ∧
         ((decide (d15.2.2<(lI st)))=false →
          ((True∧d15.2.1=(Zc hk cs a st)∧(0:Int)=(Qe hk cs a st)∧(([]:List SV)=[]))∧((d15.1=(Jl hk cs a st)∧(List.isEmpty d15.1)=(Jl hk cs a st).isEmpty)∧True)))) d150))))) ∧
   ((!(!cs.isEmpty&&!(cs.any fun c=>!QM hk c)))=false →
    w1=w1∧(((0:Int) != (0:Int))=true →
     ((True∧(0:Int)=(Zc hk cs a st)∧(0:Int)=(Qe hk cs a st)∧(([]:List SV)=[]))∧(((Jl hk cs a st)=[]∧(Jl hk cs a st).isEmpty=true)∧True))) ∧
    (((0:Int) != (0:Int))=false →
     (I64 ((lI cs)-(1:Int)))∧([a].length≤1000000)∧((!(!([a].any fun n=>decide (n<(0:Int))||decide (((lI cs)-(1:Int))<n))))=true →
      ((True∧(0:Int)=(Zc hk cs a st)∧(7:Int)=(Qe hk cs a st)∧(([]:List SV)=[]))∧(((Jl hk cs a st)=[]∧(Jl hk cs a st).isEmpty=true)∧True))) ∧
     ((!(!([a].any fun n=>decide (n<(0:Int))||decide (((lI cs)-(1:Int))<n))))=false →
      ((decide ((lI st) > (60:Int)))=true →
       ((True∧(0:Int)=(Zc hk cs a st)∧(5:Int)=(Qe hk cs a st)∧(([]:List SV)=[]))∧(((Jl hk cs a st)=[]∧(Jl hk cs a st).isEmpty=true)∧True))) ∧
      ((decide ((lI st) > (60:Int)))=false →
       (st.length≤1000000)∧((!(!(st.any fun n=>decide (n<(0:Int))||decide ((2:Int)<n))))=true →
        ((True∧(0:Int)=(Zc hk cs a st)∧(2:Int)=(Qe hk cs a st)∧(([]:List SV)=[]))∧(((Jl hk cs a st)=[]∧(Jl hk cs a st).isEmpty=true)∧True))) ∧
       ((!(!(st.any fun n=>decide (n<(0:Int))||decide ((2:Int)<n))))=false →
        ∃ (ua:Unit) (d200:(List Int)×Int×Int),((True∧a=d200.2.1∧True∧st=st∧(lI st)=(lI st)∧(0:Int)=d200.2.2∧True)∧((d200.1=[]∧(List.isEmpty d200.1)=true)∧(hk=hk∧cs=cs∧hk=hk∧(([]:List SV)=[]))∧True)) ∧
        LoopP (fun (d20:(List Int)×Int×Int) (tA:((List Int)×Int×Int)→Prop) =>
         ((decide (d20.2.2<(lI st)))=true →
          (0≤d20.2.2)∧(d20.2.2<(List.length st))∧(1≤hk∧hk≤24∧0≤d20.2.1∧d20.2.1<cs.length∧∀ c∈cs,QM hk c=true)∧(((List.length d20.1)+(List.length [(Ym hk (cs.getD d20.2.1.toNat XG))]))*8≤70368744177664)∧(cs≠[]∧cs.length≤1000∧-1000000≤d20.2.1∧d20.2.1≤1000000∧-1000000≤(gD st d20.2.2 0)∧(gD st d20.2.2 0)≤1000000)∧(I64 (d20.2.2+(1:Int)))∧(∃ d21:(List Int)×Int×Int,((True∧(Int.tmod (d20.2.1+(gD st d20.2.2 0)) cs.length)=d21.2.1∧True∧st=st∧(lI st)=(lI st)∧(d20.2.2+(1:Int))=d21.2.2∧True)∧(((d20.1++[(Ym hk (cs.getD d20.2.1.toNat XG))])=d21.1∧false=(List.isEmpty d21.1))∧(hk=hk∧cs=cs∧hk=hk∧(([]:List SV)=[]))∧True))∧tA d21)) ∧
         ((decide (d20.2.2<(lI st)))=false →
          ((True∧d20.2.1=(Zc hk cs a st)∧(0:Int)=(Qe hk cs a st)∧(([]:List SV)=[]))∧((d20.1=(Jl hk cs a st)∧(List.isEmpty d20.1)=(Jl hk cs a st).isEmpty)∧True)))) d200)))))))
def MD:Cx:=⟨[(3,(.i .i64))],[(87,Qz),(88,ZR),(104,JB),(78,JC),(86,QI)],58,[],0,[(103,Y5)],[],[],[],false,[],[],[],[]⟩
def Tw (hk:Int) (cs:List (Int×Int×Bool)) (a:Int) (st:List Int):List (Nat×LoopAnn):=[(1,⟨Unit,(List Int)×Int×Int,[6,7,9,39,40,41],fun e x=>[.lst 50,.val (.i .i64) x.2.1,.box 9 0,.val (.list (.i .i64)) st,.val (.i .i64) (((List.length st):Nat):Int),.val (.i .i64) x.2.2],fun e x=>[(50,.slot 6,.lst 3 (.i .i64) x.1 (List.isEmpty x.1)),(9,.slot 9,.cells [.val (.i .i64) hk,.val (.list (.pair (.i .i64) (.pair (.i .i64) .bo))) cs,.val (.i .i64) hk] (some 119))]⟩)]
theorem PE (d:(Int×List (Int×Int×Bool))×Int×List Int):gwp (MD) (Tw d.1.1 d.1.2 d.2.1 d.2.2) c48 0 (Kl [.tmp 6,.tmp 7,.tmp 8] (ND d) (Nr d)) (QC 58 (AL.can Mr d))=WR d.1.1 d.1.2 d.2.1 d.2.2:=by kernel_rfl
abbrev PL:Prop:=OkC Tryz.prog 48 Vs
theorem PV (h:∀ (hk:Int) (cs:List (Int×Int×Bool)) (a:Int) (st:List Int),(cs.length≤1000∧st.length≤1000)→WR hk cs a st):OkC Tryz.prog 48 Vs :=
 QP Q5x mixed (C:=MD) (V:=fun (d:(Int×List (Int×Int×Bool))×Int×List Int)=>WR d.1.1 d.1.2 d.2.1 d.2.2) ⟨(.cons Q_ (.cons JL (.cons YX (.cons YL (.cons Zg .nil))))),(XsOk.cons WN XsOk.nil),ItsOk.nil,YlOk.nil,IysOk.nil,XfOk.nil⟩ (PE) fun d hp=>h d.1.1 d.1.2 d.2.1 d.2.2 hp
theorem Tg:PL:=PV fun hk cs a st h=>by
 obtain⟨h1,h2⟩:=h;unfold WR;(try delta lI gD sT I64 Kq pj8 pj4);intro vals;have e:∀ n a b:Int,(decide (n<a)||decide (b<n))=!inI n a b:=fun n a b=>(nI n a b).symm;simp only[true_and,and_true,List.any_cons,List.any_nil,Bool.or_false,e,Bool.not_not,List.length_cons,List.length_nil];refine⟨fun c=>⟨fun _=>?_,(fun d=>by cases d)⟩,fun c=>⟨fun c2=>⟨fun _=>?_,(fun d=>by cases d)⟩,fun c2=>⟨?_,fun c3=>⟨fun _=>?_,(fun d=>by cases d)⟩,fun c3=>⟨(fun d=>by cases d),fun _=>?_⟩⟩⟩⟩
 ·have hb:Q7 hk cs=3:=by unfold Q7;rw[if_pos c]
  exact K0 (by unfold Qe;rw[hb];rfl) (by omega)
 ·have c2:=of_decide_eq_true c2;have hb:Q7 hk cs=5:=by unfold Q7;rw[if_neg (by rw[c];decide),if_pos (by omega)]
  exact K0 (by unfold Qe;rw[hb];rfl) (by omega)
 ·have c:=V_ c;exact⟨c.1,c.2,by omega⟩
 ·have c2:=of_decide_eq_false c2;have hb:=RK c (by omega) c3;exact K0 (by unfold Qe;rw[hb];rfl) (by omega)
 ·have c2:=of_decide_eq_false c2;obtain⟨hb,aA,ah⟩:=LZ c (by omega) c3;have hc:=V_ c;have bA:=List.length_pos_iff.2 aA;refine⟨by simp only[Qx];omega,by omega,fun c4=>?_,fun c4=>⟨fun c5=>?_,fun c5=>⟨by omega,fun c6=>?_,fun c6=>?_⟩⟩⟩
  ·exact K0 (by unfold Qe;rw[hb,if_neg (by omega),if_pos c4]) (by omega)
  ·have c5:=of_decide_eq_true c5;exact K0 (by unfold Qe;rw[hb,if_neg (by omega),if_neg (by rw[c4];decide),if_pos (by omega)]) (by omega)
  ·have c5:=of_decide_eq_false c5;exact K0 (by unfold Qe;rw[hb,if_neg (by omega),if_neg (by rw[c4];decide),if_neg (by omega),if_pos c6]) (by omega)
  ·have c5:=of_decide_eq_false c5;have e0:Qe hk cs a st=0:=by unfold Qe;rw[hb,if_neg (by omega),if_neg (by rw[c4];decide),if_neg (by omega),if_neg (by rw[c6];decide)]
   have e1:Zc hk cs a st=atK cs.length a st st.length:=by unfold Zc;rw[if_pos e0]
   have e2:Jl hk cs a st=Dn hk cs a st st.length:=by unfold Jl;rw[if_pos e0]
   have ha:=V_ c4;have bc:∀ s∈st,0≤s∧s≤2:=fun s hs=>by have:=List.any_eq_false.1 c6 s hs;exact V_ (by simpa using this)
   rw[e0,e1,e2];refine⟨(),([],a,0),(by and_intros<;>first|rfl|trivial),?_⟩;refine⟨fun d=>∃ k:Nat,d.2.2=k∧k≤st.length∧d.1=Dn hk cs a st k∧d.2.1=atK cs.length a st k,fun d=>st.length-d.2.2.toNat,⟨0,rfl,by omega,rfl,rfl⟩,?_⟩;rintro⟨l,p,k'⟩ ⟨k,f1,f2,f3,f4⟩;dsimp only at f1 f3 f4 ⊢;subst f1 f3 f4;have aM:=Q37 (a:=a) (st:=st) bA (by omega) (by omega) (fun s hs=>(bc s hs).1) k;simp only[Int.toNat_natCast];refine⟨fun g=>?_,fun g=>?_⟩
   ·have g:k<st.length:=by have:=of_decide_eq_true g;omega
    have hs:=bc (st.getD k 0) (by rw[Qk g];exact List.getElem_mem g);have hl:=Hr hk cs a st k;refine⟨by omega,by omega,⟨hc.1,hc.2,aM.1,by omega,ah⟩,by omega,⟨aA,h1,by omega,by omega,by omega,by omega⟩,by simp only[Qx];omega,(Dn hk cs a st (k+1),atK cs.length a st (k+1),(k:Int)+1),?_,⟨k+1,by simp,by omega,rfl,rfl⟩,by dsimp only;omega⟩;rw[TP];and_intros<;>first|rfl|trivial|simp
   ·have g:k=st.length:=by have:=of_decide_eq_false g;omega
    subst g;exact(by and_intros<;>first|rfl|trivial|simp)
def DX:AL (Int×List (Int×Int×Bool)):=(.one (.agg (.cons (.k (.i .i64)) (.one (.k (.list (.pair (.i .i64) (.pair (.i .i64) .bo))))))))
def S5 (d:Int×List (Int×Int×Bool)):Prop:=d.2.length≤1000
def GW (d:Int×List (Int×Int×Bool)):SV:=.agg [.val (.i .i64) d.1,.lst 0]
def GH (d:Int×List (Int×Int×Bool)):List OB:=[.lst 87 (.pair (.i .i64) (.pair (.i .i64) .bo)) d.2 false]
def G2:CSp:=YP DX S5 GW GH
def Kx (hk:Int) (cs:List (Int×Int×Bool)):Prop :=
 (((List.length ([]:List (Int×Int×Bool)))+(List.length cs))*24≤70368744177664)∧((hk=hk∧True∧(([]:List SV)=[]))∧(((([]:List (Int×Int×Bool))++cs)=cs∧((List.isEmpty cs)&&false)=false)∧True))
def B4:Cx:=⟨[(87,(.pair (.i .i64) (.pair (.i .i64) .bo)))],[],9,[],0,[],[],[],[],false,[],[],[],[]⟩
def LH (hk:Int) (cs:List (Int×Int×Bool)):List (Nat×LoopAnn):=[]
theorem LL (d:Int×List (Int×Int×Bool)):gwp (B4) (LH d.1 d.2) c16 0 (Kl [.cell 2 true 2] (GW d) (GH d)) (QC 9 (AL.can DX d))=Kx d.1 d.2:=by kernel_rfl
abbrev LK:Prop:=OkC Tryz.prog 16 G2
theorem LM (h:∀ (hk:Int) (cs:List (Int×Int×Bool)),(cs.length≤1000)→Kx hk cs):OkC Tryz.prog 16 G2 :=
 QP Q62 mixed (C:=B4) (V:=fun (d:Int×List (Int×Int×Bool))=>Kx d.1 d.2) ⟨.nil,XsOk.nil,ItsOk.nil,YlOk.nil,IysOk.nil,XfOk.nil⟩ (LL) fun d hp=>h d.1 d.2 hp
theorem SC:LK:=LM fun hk cs h=>by unfold Kx;(try delta lI gD sT I64 Kq pj8 pj4);simp only[List.length_nil,List.nil_append];refine⟨by omega,?_⟩;and_intros<;>first|rfl|trivial|simp
def Dd:AL (List Int):=(.one (.k (.list (.i .i64))))
def Tm (d:List Int):Prop:=d.length≤1000
def Mb (d:List Int):SV:=.lst 0
def My (d:List Int):List OB:=[.lst 3 (.i .i64) d false]
def NC:CSp:=YP Dd Tm Mb My
def Yv (l:List Int):Prop :=
 (((List.length ([]:List Int))+(List.length l))*8≤70368744177664)∧(True∧(((([]:List Int)++l)=l∧((List.isEmpty l)&&false)=false)∧True))
def Gs:Cx:=⟨[(3,(.i .i64))],[],6,[],0,[],[],[],[],false,[],[],[],[]⟩
def RX (l:List Int):List (Nat×LoopAnn):=[]
theorem Sq (d:List Int):gwp (Gs) (RX d) c25 0 (Kl [.tmp 2] (Mb d) (My d)) (QC 6 (AL.can Dd d))=Yv d:=by kernel_rfl
abbrev Sa:Prop:=OkC Tryz.prog 25 NC
theorem Sk (h:∀ (l:List Int),(l.length≤1000)→Yv l):OkC Tryz.prog 25 NC :=
 QP Q4a mixed (C:=Gs) (V:=fun (d:List Int)=>Yv d) ⟨.nil,XsOk.nil,ItsOk.nil,YlOk.nil,IysOk.nil,XfOk.nil⟩ (Sq) fun d hp=>h d hp
theorem Ro:Sa:=Sk fun l h=>by unfold Yv;(try delta lI gD sT I64 Kq pj8 pj4);simp only[List.length_nil,List.nil_append];refine⟨by omega,?_⟩;and_intros<;>first|rfl|trivial|simp
def HA:AL (Int×Int×Int):=(.cons (.k (.i .i64)) (.cons (.k (.i .i64)) (.one (.k (.i .i64)))))
def SE (d:Int×Int×Int):Prop:=True
def Bl (d:Int×Int×Int):SV:=.val .bo (inI d.1 d.2.1 d.2.2)
def Ba (d:Int×Int×Int):List OB:=[]
def Ws:CSp:=YP HA SE Bl Ba
def VA (n:Int) (a:Int) (b:Int):Prop :=
 (((decide (n≥a))&&(decide (n≤b)))=(inI n a b)∧(True))
def HW:Cx:=⟨[],[],15,[],0,[],[],[],[],false,[],[],[],[]⟩
def Cl (n:Int) (a:Int) (b:Int):List (Nat×LoopAnn):=[]
theorem Cs (d:Int×Int×Int):gwp (HW) (Cl d.1 d.2.1 d.2.2) c30 0 (Kl [.tmp 6] (Bl d) (Ba d)) (QC 15 (AL.can HA d))=VA d.1 d.2.1 d.2.2:=by kernel_rfl
abbrev C7:Prop:=OkC Tryz.prog 30 Ws
theorem C5 (h:∀ (n:Int) (a:Int) (b:Int),(True)→VA n a b):OkC Tryz.prog 30 Ws :=
 QP Q5w mixed (C:=HW) (V:=fun (d:Int×Int×Int)=>VA d.1 d.2.1 d.2.2) ⟨.nil,XsOk.nil,ItsOk.nil,YlOk.nil,IysOk.nil,XfOk.nil⟩ (Cs) fun d hp=>h d.1 d.2.1 d.2.2 hp
theorem YN:C7:=C5 fun n a b _=>by unfold VA;(try delta lI gD sT I64 Kq pj8 pj4);exact(by and_intros<;>first|rfl|trivial|simp)
def B6:AL (Int×Int):=(.cons (.k (.i .i64)) (.one (.k (.i .i64))))
def Rn (d:Int×Int):Prop:=0≤d.2∧d.2≤62
def D9 (d:Int×Int):SV:=.val .bo (inI d.1 0 (2 ^ d.2.toNat-1))
def D8 (d:Int×Int):List OB:=[]
def VD:CSp:=YP B6 Rn D9 D8
def KA (r:Int) (hk:Int):Prop :=
 (InK .u64 hk)∧(0≤hk)∧(I64 (JF .i64 (1:Int) hk))∧(I64 ((JF .i64 (1:Int) hk)-(1:Int)))∧(True)∧((inI r (0:Int) ((JF .i64 (1:Int) hk)-(1:Int)))=(inI r 0 (2 ^ hk.toNat-1))∧(True))
def B5:Cx:=⟨[],[(30,Ws)],11,[],0,[],[],[],[],false,[],[],[],[]⟩
def SA (r:Int) (hk:Int):List (Nat×LoopAnn):=[]
theorem LY (d:Int×Int):gwp (B5) (SA d.1 d.2) Q9u 0 (Kl [.tmp 4] (D9 d) (D8 d)) (QC 11 (AL.can B6 d))=KA d.1 d.2:=by kernel_rfl
abbrev Sz:Prop:=OkC Tryz.prog 105 VD
theorem L3 (h:∀ (r:Int) (hk:Int),(0≤hk∧hk≤62)→KA r hk):OkC Tryz.prog 105 VD :=
 QP FL mixed (C:=B5) (V:=fun (d:Int×Int)=>KA d.1 d.2) ⟨(.cons YN .nil),XsOk.nil,ItsOk.nil,YlOk.nil,IysOk.nil,XfOk.nil⟩ (LY) fun d hp=>h d.1 d.2 hp
theorem DT:Sz:=L3 fun r hk h=>by obtain⟨h1,h2⟩:=h;unfold KA;(try delta lI gD sT I64 Kq pj8 pj4);obtain⟨k,rfl⟩:=Int.eq_ofNat_of_zero_le h1;have hs:=Z36 (k:=k) (by omega);have hp:=Z2h (k:=k) (by omega);simp only[hs,Int.toNat_natCast,BJ];exact⟨by simp only[NI];omega,by omega,by simp only[Qx];omega,by simp only[Qx];omega,(by and_intros<;>first|rfl|trivial|simp)⟩
def Gq:AL ((Int×Int×Bool)×Int):=(.cons (.agg (.cons (.k (.i .i64)) (.cons (.k (.i .i64)) (.one (.k .bo))))) (.one (.k (.i .i64))))
def Tt (d:(Int×Int×Bool)×Int):Prop:=0≤d.2∧d.2≤62
def MI (d:(Int×Int×Bool)×Int):SV:=.val .bo (QM d.2 (d.1.1,(d.1.2.1,d.1.2.2)))
def Mz (d:(Int×Int×Bool)×Int):List OB:=[]
def UG:CSp:=YP Gq Tt MI Mz
def YA (cn:Int) (cr:Int) (ct:Bool) (hk:Int):Prop :=
 (True)∧((inI cn (-1:Int) (59:Int))=true→0≤hk∧hk≤62)∧(((inI cn (-1:Int) (59:Int))&&(inI cr 0 (2 ^ hk.toNat-1)))=(QM hk (cn,(cr,ct)))∧(True))
def GL:Cx:=⟨[],[(30,Ws),(105,VD)],14,[],0,[],[],[],[],false,[],[],[],[]⟩
def RG (cn:Int) (cr:Int) (ct:Bool) (hk:Int):List (Nat×LoopAnn):=[]
theorem Rx (d:(Int×Int×Bool)×Int):gwp (GL) (RG d.1.1 d.1.2.1 d.1.2.2 d.2) c68 0 (Kl [.tmp 4] (MI d) (Mz d)) (QC 14 (AL.can Gq d))=YA d.1.1 d.1.2.1 d.1.2.2 d.2:=by kernel_rfl
abbrev RZ:Prop:=OkC Tryz.prog 68 UG
theorem Sc (h:∀ (cn:Int) (cr:Int) (ct:Bool) (hk:Int),(0≤hk∧hk≤62)→YA cn cr ct hk):OkC Tryz.prog 68 UG :=
 QP Q5l mixed (C:=GL) (V:=fun (d:(Int×Int×Bool)×Int)=>YA d.1.1 d.1.2.1 d.1.2.2 d.2) ⟨(.cons YN (.cons DT .nil)),XsOk.nil,ItsOk.nil,YlOk.nil,IysOk.nil,XfOk.nil⟩ (Rx) fun d hp=>h d.1.1 d.1.2.1 d.1.2.2 d.2 hp
theorem S1:RZ:=Sc fun cn cr ct hk h=>by unfold YA;(try delta lI gD sT I64 Kq pj8 pj4);simp only[true_and,and_true];exact⟨fun _=>h,rfl⟩
def Mm:AL (Int×List (Int×Int×Bool)):=(.one (.agg (.cons (.k (.i .i64)) (.one (.k (.list (.pair (.i .i64) (.pair (.i .i64) .bo))))))))
def He (d:Int×List (Int×Int×Bool)):Prop:=d.2.length≤9223372036854775807
def Nc (d:Int×List (Int×Int×Bool)):SV:=.val (.i .i64) (Q7 d.1 d.2)
def UP (d:Int×List (Int×Int×Bool)):List OB:=[]
def YD:CSp:=YP Mm He Nc UP
def WQ (hk:Int) (cs:List (Int×Int×Bool)):Prop :=
 (True)∧((!(inI hk (1:Int) (24:Int)))=true →
  ((3:Int)=(Q7 hk cs)∧(True))) ∧
 ((!(inI hk (1:Int) (24:Int)))=false →
  ((decide ((lI cs) > (60:Int)))=true →
   ((5:Int)=(Q7 hk cs)∧(True))) ∧
  ((decide ((lI cs) > (60:Int)))=false →
   ∃ (e3:Unit) (d30:Int),((True∧(0:Int)=d30∧True)∧((hk=hk∧cs=cs∧(([]:List SV)=[]))∧True)) ∧
   LoopP (fun (d3:Int) (q3:(Int)→Prop) =>
    ((decide (d3<(lI cs)))=true →
     (0≤d3)∧(d3<(List.length cs))∧(0≤hk∧hk≤62)∧((!(QM hk (((gD cs d3 (0,(0,false))).1),(((gD cs d3 (0,(0,false))).2.1),((gD cs d3 (0,(0,false))).2.2)))))=true →
      ((2:Int)=(Q7 hk cs)∧(True))) ∧
     ((!(QM hk (((gD cs d3 (0,(0,false))).1),(((gD cs d3 (0,(0,false))).2.1),((gD cs d3 (0,(0,false))).2.2)))))=false →
      (I64 (d3+(1:Int)))∧(∃ d4:Int,((True∧(d3+(1:Int))=d4∧True)∧((hk=hk∧cs=cs∧(([]:List SV)=[]))∧True))∧q3 d4))) ∧
    ((decide (d3<(lI cs)))=false →
     (((lI cs)==(0:Int))=true →
      ((2:Int)=(Q7 hk cs)∧(True))) ∧
     (((lI cs)==(0:Int))=false →
      ((0:Int)=(Q7 hk cs)∧(True))))) d30))
def M6:Cx:=⟨[],[(30,Ws),(68,UG)],32,[],0,[],[],[],[],false,[],[],[],[]⟩
def PS (hk:Int) (cs:List (Int×Int×Bool)):List (Nat×LoopAnn):=[(0,⟨Unit,Int,[1,3],fun e x=>[.box 1 0,.val (.i .i64) x],fun e x=>[(1,.slot 1,.cells [.val (.i .i64) hk,.val (.list (.pair (.i .i64) (.pair (.i .i64) .bo))) cs] (some 24))]⟩)]
theorem Tq (d:Int×List (Int×Int×Bool)):gwp (M6) (PS d.1 d.2) c19 0 (Kl [.tmp 2] (Nc d) (UP d)) (QC 32 (AL.can Mm d))=WQ d.1 d.2:=by kernel_rfl
abbrev T1:Prop:=OkC Tryz.prog 19 YD
theorem Pu (h:∀ (hk:Int) (cs:List (Int×Int×Bool)),(cs.length≤9223372036854775807)→WQ hk cs):OkC Tryz.prog 19 YD :=
 QP Q52 mixed (C:=M6) (V:=fun (d:Int×List (Int×Int×Bool))=>WQ d.1 d.2) ⟨(.cons YN (.cons S1 .nil)),XsOk.nil,ItsOk.nil,YlOk.nil,IysOk.nil,XfOk.nil⟩ (Tq) fun d hp=>h d.1 d.2 hp
theorem Mx:T1:=Pu fun hk cs h=>by
 unfold WQ;(try delta lI gD sT I64 Kq pj8 pj4);have hd:∀ j,cs.getD j (0,(0,false))=cs.getD j XG:=fun _=>rfl;simp only[true_and,and_true,hd];refine⟨fun c=>?_,fun c=>⟨fun c2=>?_,fun c2=>?_⟩⟩
 ·unfold Q7;rw[if_pos c]
 ·have c2:=of_decide_eq_true c2;unfold Q7;rw[if_neg (by rw[c];decide),if_pos (by omega)]
 ·have c2:=of_decide_eq_false c2;have hc:=V_ c;refine⟨(),0,(by and_intros<;>first|rfl|trivial|simp),?_⟩;refine LoopP.count cs.length (fun k=>∀ j,j<k→QM hk (cs.getD j XG)=true) (fun j hj=>by omega) ?_;rintro k a_ hJ q hq;simp only[Int.toNat_natCast];change _∧_;refine⟨fun g=>?_,fun g=>?_⟩
  ·have g:k<cs.length:=by have:=of_decide_eq_true g;omega
   refine⟨by omega,by omega,⟨by omega,by omega⟩,fun c3=>?_,fun c3=>?_⟩
   ·have c3:QM hk (cs.getD k XG)=false:=by simpa using c3
    have:(cs.any fun c=>!QM hk c)=true:=List.any_eq_true.2 ⟨cs.getD k XG,by rw[Qk g];exact List.getElem_mem g,by rw[c3];rfl⟩;rw[RK c (by omega) (by rw[this];simp)]
   ·have c3:QM hk (cs.getD k XG)=true:=by simpa using c3
    exact⟨by simp only[Qx];omega,(k:Int)+1,(by and_intros<;>first|rfl|trivial|simp),hq g fun j hj=>by
     by_cases e:j=k
     ·subst e;exact c3
     ·exact hJ j (by omega)⟩
  ·have g:k=cs.length:=by have:=of_decide_eq_false g;omega
   subst g;have ae:(cs.any fun c=>!QM hk c)=false:=List.any_eq_false.2 fun x hx=>by obtain⟨j,hj,rfl⟩:=List.getElem_of_mem hx;have:=hJ j hj;rw[Qk hj] at this;simp[this]
   refine⟨fun c3=>?_,fun c3=>?_⟩
   ·have c3:cs=[]:=List.eq_nil_of_length_eq_zero (by have:=of_decide_eq_true c3;omega);unfold Q7;rw[if_neg (by rw[c];decide),if_neg (by omega),if_pos (.inl c3)]
   ·have c3:cs≠[]:=fun e=>by rw[e] at c3;cases c3
    unfold Q7;rw[if_neg (by rw[c];decide),if_neg (by omega),if_neg];rintro (h|h)
    ·exact c3 h
    ·rw[ae] at h;cases h
def ML:AL (Int×List Int):=(.one (.agg (.cons (.k (.i .i64)) (.one (.k (.list (.i .i64)))))))
def HQ (d:Int×List Int):Prop:=d.2.length≤9223372036854775807
def UN (d:Int×List Int):SV:=.tup [.agg [.val (.i .i64) (Y9 d.1 d.2),.lst 0],.val (.i .i64) (Z0 d.1 d.2)]
def N0 (d:Int×List Int):List OB:=[.lst 87 (.pair (.i .i64) (.pair (.i .i64) .bo)) (KW d.1 d.2) ((KW d.1 d.2).isEmpty)]
def Vp:CSp:=YP ML HQ UN N0
def WH (hk:Int) (rows:List Int):Prop :=
 (True)∧((!(inI hk (1:Int) (24:Int)))=true →
  ((((0:Int)=(Y9 hk rows)∧True∧(([]:List SV)=[]))∧(2:Int)=(Z0 hk rows)∧(([]:List SV)=[]))∧(((KW hk rows)=[]∧(KW hk rows).isEmpty=true)∧True))) ∧
 ((!(inI hk (1:Int) (24:Int)))=false →
  ((decide ((lI rows) > (60:Int)))=true →
   ((((0:Int)=(Y9 hk rows)∧True∧(([]:List SV)=[]))∧(5:Int)=(Z0 hk rows)∧(([]:List SV)=[]))∧(((KW hk rows)=[]∧(KW hk rows).isEmpty=true)∧True))) ∧
  ((decide ((lI rows) > (60:Int)))=false →
   (((lI rows)==(0:Int))=true →
    ((((0:Int)=(Y9 hk rows)∧True∧(([]:List SV)=[]))∧(7:Int)=(Z0 hk rows)∧(([]:List SV)=[]))∧(((KW hk rows)=[]∧(KW hk rows).isEmpty=true)∧True))) ∧
   (((lI rows)==(0:Int))=false →
    ∃ (e4:Unit) (d40:(List (Int×Int×Bool))×Int),((True∧True∧True∧(0:Int)=d40.2∧True)∧((hk=hk∧rows=rows∧(([]:List SV)=[]))∧((0:Int)=(0:Int)∧True∧(([]:List SV)=[]))∧(hk=hk∧True∧(([]:List SV)=[]))∧(d40.1=[]∧(List.isEmpty d40.1)=true)∧True)) ∧
    LoopP (fun (d4:(List (Int×Int×Bool))×Int) (q4:((List (Int×Int×Bool))×Int)→Prop) =>
     ((decide (d4.2<(lI rows)))=true →
      (0≤d4.2)∧(d4.2<(List.length rows))∧(0≤hk∧hk≤62)∧((!(inI (gD rows d4.2 0) 0 (2 ^ hk.toNat-1)))=true →
       ((((0:Int)=(Y9 hk rows)∧True∧(([]:List SV)=[]))∧(2:Int)=(Z0 hk rows)∧(([]:List SV)=[]))∧(((KW hk rows)=[]∧(KW hk rows).isEmpty=true)∧True))) ∧
      ((!(inI (gD rows d4.2 0) 0 (2 ^ hk.toNat-1)))=false →
       (0≤d4.2)∧(d4.2<(List.length rows))∧(((List.length d4.1)+(List.length [(d4.2,((gD rows d4.2 0),false))]))*24≤70368744177664)∧(I64 (d4.2+(1:Int)))∧(∃ d5:(List (Int×Int×Bool))×Int,((True∧True∧True∧(d4.2+(1:Int))=d5.2∧True)∧((hk=hk∧rows=rows∧(([]:List SV)=[]))∧((0:Int)=(0:Int)∧True∧(([]:List SV)=[]))∧(hk=hk∧True∧(([]:List SV)=[]))∧((d4.1++[(d4.2,((gD rows d4.2 0),false))])=d5.1∧false=(List.isEmpty d5.1))∧True))∧q4 d5))) ∧
     ((decide (d4.2<(lI rows)))=false →
      (((hk=(Y9 hk rows)∧True∧(([]:List SV)=[]))∧(0:Int)=(Z0 hk rows)∧(([]:List SV)=[]))∧((d4.1=(KW hk rows)∧(List.isEmpty d4.1)=(KW hk rows).isEmpty)∧True)))) d40)))
def Mf:Cx:=⟨[(87,(.pair (.i .i64) (.pair (.i .i64) .bo)))],[(30,Ws),(105,VD)],54,[],0,[],[],[],[],false,[],[],[],[]⟩
def PI (hk:Int) (rows:List Int):List (Nat×LoopAnn):=[(0,⟨Unit,(List (Int×Int×Bool))×Int,[1,2,4,5],fun e x=>[.box 1 0,.box 2 0,.box 4 0,.val (.i .i64) x.2],fun e x=>[(1,.slot 1,.cells [.val (.i .i64) hk,.val (.list (.i .i64)) rows] (some 81)),(2,.slot 2,.cells [.val (.i .i64) (0:Int),.nilS] (some 24)),(4,.slot 4,.cells [.val (.i .i64) hk,.lst 51] (some 24)),(51,.cell 4 1,.lst 87 (.pair (.i .i64) (.pair (.i .i64) .bo)) x.1 (List.isEmpty x.1))]⟩)]
theorem P_ (d:Int×List Int):gwp (Mf) (PI d.1 d.2) c58 0 (Kl [.cell 2 true 2,.tmp 3] (UN d) (N0 d)) (QC 54 (AL.can ML d))=WH d.1 d.2:=by kernel_rfl
abbrev Po:Prop:=OkC Tryz.prog 58 Vp
theorem Pt (h:∀ (hk:Int) (rows:List Int),(rows.length≤9223372036854775807)→WH hk rows):OkC Tryz.prog 58 Vp :=
 QP Q5b mixed (C:=Mf) (V:=fun (d:Int×List Int)=>WH d.1 d.2) ⟨(.cons YN (.cons DT .nil)),XsOk.nil,ItsOk.nil,YlOk.nil,IysOk.nil,XfOk.nil⟩ (P_) fun d hp=>h d.1 d.2 hp
theorem PJ:Po:=Pt fun hk rows h=>by
 unfold WH;(try delta lI gD sT I64 Kq pj8 pj4);simp only[true_and,and_true];refine⟨fun c=>?_,fun c=>⟨fun c2=>?_,fun c2=>⟨fun c3=>?_,fun c3=>?_⟩⟩⟩
 ·exact N4 (by unfold Z0;rw[if_pos c]) (by omega)
 ·have c2:=of_decide_eq_true c2;exact N4 (by unfold Z0;rw[if_neg (by rw[c];decide),if_pos (by omega)]) (by omega)
 ·have c2:=of_decide_eq_false c2;have c3:rows=[]:=List.eq_nil_of_length_eq_zero (by have:=of_decide_eq_true c3;omega);exact N4 (by unfold Z0;rw[if_neg (by rw[c];decide),if_neg (by omega),if_pos c3]) (by omega)
 ·have c2:=of_decide_eq_false c2;have c3:rows≠[]:=fun e=>by rw[e] at c3;cases c3
  have hc:=V_ c;refine⟨(),([],0),(by and_intros<;>first|rfl|trivial),?_⟩;refine LoopP.count2 rows.length (fun k l=>l=Ot rows k∧∀ j,j<k→inI (rows.getD j 0) 0 (2 ^ hk.toNat-1)=true) ⟨rfl,fun j hj=>by omega⟩ ?_;rintro k l a_ ⟨hJ,hI⟩ q hq;subst hJ;dsimp only;simp only[Int.toNat_natCast];refine⟨fun g=>?_,fun g=>?_⟩
  ·have g:k<rows.length:=by have:=of_decide_eq_true g;omega
   have hl:=AM rows k;refine⟨by omega,by omega,⟨by omega,by omega⟩,fun c4=>?_,fun c4=>?_⟩
   ·have c4:inI (rows.getD k 0) 0 (2 ^ hk.toNat-1)=false:=by simpa using c4
    have:(rows.any fun r=>!inI r 0 (2 ^ hk.toNat-1))=true:=List.any_eq_true.2 ⟨rows.getD k 0,by rw[Qk g];exact List.getElem_mem g,by rw[c4];rfl⟩;exact N4 (by unfold Z0;rw[if_neg (by rw[c];decide),if_neg (by omega),if_neg c3,if_pos this]) (by omega)
   ·have c4:inI (rows.getD k 0) 0 (2 ^ hk.toNat-1)=true:=by simpa using c4
    refine⟨by omega,by omega,by simp only[List.length_cons,List.length_nil];omega,by simp only[Qx];omega,(Ot rows (k+1),(k:Int)+1),?_,hq _ g ⟨rfl,fun j hj=>by
     by_cases e:j=k
     ·subst e;exact c4
     ·exact hI j (by omega)⟩⟩
    rw[LC];and_intros<;>first|rfl|trivial|simp
  ·have g:k=rows.length:=by have:=of_decide_eq_false g;omega
   subst g;have c4:(rows.any fun r=>!inI r 0 (2 ^ hk.toNat-1))=false:=List.any_eq_false.2 fun x hx=>by obtain⟨j,hj,rfl⟩:=List.getElem_of_mem hx;have:=hI j hj;rw[Qk hj] at this;simp[this]
   have e0:Z0 hk rows=0:=by unfold Z0;rw[if_neg (by rw[c];decide),if_neg (by omega),if_neg c3,if_neg (by rw[c4];decide)]
   have e1:Y9 hk rows=hk:=by unfold Y9;rw[if_pos e0]
   have e2:KW hk rows=Q8t rows:=by unfold KW;rw[if_pos e0]
   rw[e0,e1,e2];exact(by and_intros<;>first|rfl|trivial|simp)
def M9:AL ((Int×Int×Bool)×Int):=(.cons (.agg (.cons (.k (.i .i64)) (.cons (.k (.i .i64)) (.one (.k .bo))))) (.one (.k (.i .i64))))
def HV (d:(Int×Int×Bool)×Int):Prop:=1≤d.2∧d.2≤24∧0≤d.1.2.1∧d.1.2.1<2 ^ d.2.toNat
def Nq (d:(Int×Int×Bool)×Int):SV:=.val (.i .i64) (Ym d.2 (d.1.1,(d.1.2.1,d.1.2.2)))
def Nh (d:(Int×Int×Bool)×Int):List OB:=[]
def VQ:CSp:=YP M9 HV Nq Nh
def WG (cn:Int) (cr:Int) (ct:Bool) (hk:Int):Prop :=
 ((!ct)=true →
  (cr=(Ym hk (cn,(cr,ct)))∧(True))) ∧
 ((!ct)=false →
  ∃ (e3:Unit) (d30:Int×Int),((hk=hk∧True∧(0:Int)=d30.1∧(0:Int)=d30.2∧True)∧((cn=cn∧cr=cr∧ct=ct∧(([]:List SV)=[]))∧True)) ∧
  LoopP (fun (d3:Int×Int) (q3:(Int×Int)→Prop) =>
   ((decide (d3.2<hk))=true →
    (I64 (hk-(1:Int)))∧(I64 ((hk-(1:Int))-d3.2))∧(InK .u64 ((hk-(1:Int))-d3.2))∧(0≤((hk-(1:Int))-d3.2))∧(((Q8 .and .i64 (Qp .i64 cr ((hk-(1:Int))-d3.2)) (1:Int))==(1:Int))=true →
     (InK .u64 d3.2)∧(0≤d3.2)∧(I64 (JF .i64 (1:Int) d3.2))∧(I64 (d3.1+(JF .i64 (1:Int) d3.2)))∧(I64 (d3.2+(1:Int)))∧(∃ d4:Int×Int,((hk=hk∧True∧(d3.1+(JF .i64 (1:Int) d3.2))=d4.1∧(d3.2+(1:Int))=d4.2∧True)∧((cn=cn∧cr=cr∧ct=ct∧(([]:List SV)=[]))∧True))∧q3 d4)) ∧
    (((Q8 .and .i64 (Qp .i64 cr ((hk-(1:Int))-d3.2)) (1:Int))==(1:Int))=false →
     (I64 (d3.2+(1:Int)))∧(∃ d5:Int×Int,((hk=hk∧True∧d3.1=d5.1∧(d3.2+(1:Int))=d5.2∧True)∧((cn=cn∧cr=cr∧ct=ct∧(([]:List SV)=[]))∧True))∧q3 d5))) ∧
   ((decide (d3.2<hk))=false →
    (d3.1=(Ym hk (cn,(cr,ct)))∧(True)))) d30)
def Me:Cx:=⟨[],[],33,[],0,[],[],[],[],false,[],[],[],[]⟩
def Tb (cn:Int) (cr:Int) (ct:Bool) (hk:Int):List (Nat×LoopAnn):=[(0,⟨Unit,Int×Int,[1,2,5,6],fun e x=>[.val (.i .i64) hk,.box 2 0,.val (.i .i64) x.1,.val (.i .i64) x.2],fun e x=>[(2,.slot 2,.cells [.val (.i .i64) cn,.val (.i .i64) cr,.val .bo ct] (some 87))]⟩)]
theorem PZ (d:(Int×Int×Bool)×Int):gwp (Me) (Tb d.1.1 d.1.2.1 d.1.2.2 d.2) c72 0 (Kl [.tmp 4] (Nq d) (Nh d)) (QC 33 (AL.can M9 d))=WG d.1.1 d.1.2.1 d.1.2.2 d.2:=by kernel_rfl
abbrev Py:Prop:=OkC Tryz.prog 72 VQ
theorem PX (h:∀ (cn:Int) (cr:Int) (ct:Bool) (hk:Int),(1≤hk∧hk≤24∧0≤cr∧cr<2 ^ hk.toNat)→WG cn cr ct hk):OkC Tryz.prog 72 VQ :=
 QP Q41 mixed (C:=Me) (V:=fun (d:(Int×Int×Bool)×Int)=>WG d.1.1 d.1.2.1 d.1.2.2 d.2) ⟨.nil,XsOk.nil,ItsOk.nil,YlOk.nil,IysOk.nil,XfOk.nil⟩ (PZ) fun d hp=>h d.1.1 d.1.2.1 d.1.2.2 d.2 hp
theorem PA:Py:=PX fun cn cr ct hk h=>by
 obtain⟨h1,h2,h3,h4⟩:=h;unfold WG;(try delta lI gD sT I64 Kq pj8 pj4);simp only[true_and,and_true];refine⟨fun c=>?_,fun c=>?_⟩
 ·have c:ct=false:=by simpa using c
  subst c;rfl
 ·have c:ct=true:=by simpa using c
  subst c;obtain⟨f,rfl⟩:=Int.eq_ofNat_of_zero_le (show 0≤hk by omega);obtain⟨n,rfl⟩:=Int.eq_ofNat_of_zero_le h3;simp only[Int.toNat_natCast,BJ] at h4;have hp:=Q0y (k:=f) (by omega);have h4:n<2 ^ f:=by omega
  refine⟨(),(0,0),(by and_intros<;>first|rfl|trivial),?_⟩;refine LoopP.count2 f (fun k r=>r=((EW f n k:Nat):Int)) rfl ?_;rintro k r ub hJ q hq;subst hJ;dsimp only;have ai:=CK f n k;have uc:=Q0y (k:=k) (by omega);refine⟨fun g=>?_,fun g=>?_⟩
  ·have g:k<f:=by have:=of_decide_eq_true g;omega
   have eG:((f:Int)-1)-(k:Int)=((f-1-k:Nat):Int):=by omega
   rw[eG,Q65 (by omega) (by omega),Z36 (by omega)];have hs:=Hj f n k;refine⟨by simp only[Qx];omega,by simp only[Qx];omega,by simp only[NI];omega,by omega,fun c=>?_,fun c=>?_⟩
   ·rw[if_pos c] at hs;refine⟨by simp only[NI];omega,by omega,by simp only[Qx];omega,by simp only[Qx];omega,by simp only[Qx];omega,(((EW f n (k+1):Nat):Int),(k:Int)+1),?_,hq _ g rfl⟩;rw[hs];and_intros<;>first|rfl|trivial|(push_cast;omega)
   ·rw[if_neg (by rw[c];decide)] at hs;refine⟨by simp only[Qx];omega,(((EW f n (k+1):Nat):Int),(k:Int)+1),?_,hq _ g rfl⟩;rw[hs];and_intros<;>first|rfl|trivial
  ·have g:k=f:=by have:=of_decide_eq_false g;omega
   subst g;rw[OE];show _=Ym _ _;unfold Ym Q6f;simp only[Int.toNat_natCast,if_true]
def MG:AL ((Int×List (Int×Int×Bool))×Int×List Int):=(.cons (.agg (.cons (.k (.i .i64)) (.one (.k (.list (.pair (.i .i64) (.pair (.i .i64) .bo))))))) (.cons (.k (.i .i64)) (.one (.k (.list (.i .i64))))))
def HI (d:(Int×List (Int×Int×Bool))×Int×List Int):Prop:=d.1.2.length≤9223372036854775807∧d.2.2.length≤9223372036854775807
def NL (d:(Int×List (Int×Int×Bool))×Int×List Int):SV:=.tup [.lst 0,.val (.i .i64) (Zc d.1.1 d.1.2 d.2.1 d.2.2),.val (.i .i64) (Qe d.1.1 d.1.2 d.2.1 d.2.2)]
def N6 (d:(Int×List (Int×Int×Bool))×Int×List Int):List OB:=[.lst 3 (.i .i64) (Jl d.1.1 d.1.2 d.2.1 d.2.2) (!(Qe d.1.1 d.1.2 d.2.1 d.2.2==0))]
def VM:CSp:=YP MG HI NL N6
def WE (hk:Int) (cs:List (Int×Int×Bool)) (a:Int) (st:List Int):Prop :=
 (cs.length≤9223372036854775807)∧(((Q7 hk cs) != (0:Int))=true →
  ((True∧(0:Int)=(Zc hk cs a st)∧(Q7 hk cs)=(Qe hk cs a st)∧(([]:List SV)=[]))∧(((Jl hk cs a st)=[]∧(!(Qe hk cs a st==0))=true)∧True))) ∧
 (((Q7 hk cs) != (0:Int))=false →
  (I64 ((lI cs)-(1:Int)))∧(True)∧((!(inI a (0:Int) ((lI cs)-(1:Int))))=true →
   ((True∧(0:Int)=(Zc hk cs a st)∧(7:Int)=(Qe hk cs a st)∧(([]:List SV)=[]))∧(((Jl hk cs a st)=[]∧(!(Qe hk cs a st==0))=true)∧True))) ∧
  ((!(inI a (0:Int) ((lI cs)-(1:Int))))=false →
   ((decide ((lI st) > (60:Int)))=true →
    ((True∧(0:Int)=(Zc hk cs a st)∧(5:Int)=(Qe hk cs a st)∧(([]:List SV)=[]))∧(((Jl hk cs a st)=[]∧(!(Qe hk cs a st==0))=true)∧True))) ∧
   ((decide ((lI st) > (60:Int)))=false →
    ∃ (e3:Unit) (d30:(List Int)×Int×Int),((st=st∧True∧True∧a=d30.2.1∧(0:Int)=d30.2.2∧True)∧((hk=hk∧cs=cs∧(([]:List SV)=[]))∧(([]:List Int)=d30.1∧false=false)∧True)) ∧
    LoopP (fun (d3:(List Int)×Int×Int) (q3:((List Int)×Int×Int)→Prop) =>
     ((decide (d3.2.2<(lI st)))=true →
      (0≤d3.2.2)∧(d3.2.2<(List.length st))∧(True)∧((!(inI (gD st d3.2.2 0) (0:Int) (2:Int)))=true →
       ((True∧(0:Int)=(Zc hk cs a st)∧(2:Int)=(Qe hk cs a st)∧(([]:List SV)=[]))∧(((Jl hk cs a st)=[]∧(!(Qe hk cs a st==0))=true)∧True))) ∧
      ((!(inI (gD st d3.2.2 0) (0:Int) (2:Int)))=false →
       (0≤d3.2.1)∧(d3.2.1<(List.length cs))∧(1≤hk∧hk≤24∧0≤((gD cs d3.2.1 (0,(0,false))).2.1)∧((gD cs d3.2.1 (0,(0,false))).2.1)<2 ^ hk.toNat)∧(((List.length d3.1)+(List.length [(Ym hk (((gD cs d3.2.1 (0,(0,false))).1),(((gD cs d3.2.1 (0,(0,false))).2.1),((gD cs d3.2.1 (0,(0,false))).2.2))))]))*8≤70368744177664)∧(0≤d3.2.2)∧(d3.2.2<(List.length st))∧(I64 (d3.2.1+(gD st d3.2.2 0)))∧((lI cs)≠0)∧(I64 (d3.2.2+(1:Int)))∧(∃ d4:(List Int)×Int×Int,((st=st∧True∧True∧(Int.tmod (d3.2.1+(gD st d3.2.2 0)) (lI cs))=d4.2.1∧(d3.2.2+(1:Int))=d4.2.2∧True)∧((hk=hk∧cs=cs∧(([]:List SV)=[]))∧((d3.1++[(Ym hk (((gD cs d3.2.1 (0,(0,false))).1),(((gD cs d3.2.1 (0,(0,false))).2.1),((gD cs d3.2.1 (0,(0,false))).2.2))))])=d4.1∧false=false)∧True))∧q3 d4))) ∧
     ((decide (d3.2.2<(lI st)))=false →
      ((True∧d3.2.1=(Zc hk cs a st)∧(0:Int)=(Qe hk cs a st)∧(([]:List SV)=[]))∧((d3.1=(Jl hk cs a st)∧false=(!(Qe hk cs a st==0)))∧True)))) d30)))
def MH:Cx:=⟨[(3,(.i .i64))],[(19,YD),(30,Ws),(72,VQ)],65,[],0,[],[],[],[],false,[],[],[],[]⟩
def PH (hk:Int) (cs:List (Int×Int×Bool)) (a:Int) (st:List Int):List (Nat×LoopAnn):=[(0,⟨Unit,(List Int)×Int×Int,[2,3,10,11,12],fun e x=>[.val (.list (.i .i64)) st,.box 3 0,.lst 28,.val (.i .i64) x.2.1,.val (.i .i64) x.2.2],fun e x=>[(3,.slot 3,.cells [.val (.i .i64) hk,.val (.list (.pair (.i .i64) (.pair (.i .i64) .bo))) cs] (some 24)),(28,.slot 10,.lst 3 (.i .i64) x.1 false)]⟩)]
theorem Tn (d:(Int×List (Int×Int×Bool))×Int×List Int):gwp (MH) (PH d.1.1 d.1.2 d.2.1 d.2.2) c59 0 (Kl [.tmp 6,.tmp 7,.tmp 8] (NL d) (N6 d)) (QC 65 (AL.can MG d))=WE d.1.1 d.1.2 d.2.1 d.2.2:=by kernel_rfl
abbrev Tf:Prop:=OkC Tryz.prog 59 VM
theorem Ty (h:∀ (hk:Int) (cs:List (Int×Int×Bool)) (a:Int) (st:List Int),(cs.length≤9223372036854775807∧st.length≤9223372036854775807)→WE hk cs a st):OkC Tryz.prog 59 VM :=
 QP Q5i mixed (C:=MH) (V:=fun (d:(Int×List (Int×Int×Bool))×Int×List Int)=>WE d.1.1 d.1.2 d.2.1 d.2.2) ⟨(.cons Mx (.cons YN (.cons PA .nil))),XsOk.nil,ItsOk.nil,YlOk.nil,IysOk.nil,XfOk.nil⟩ (Tn) fun d hp=>h d.1.1 d.1.2 d.2.1 d.2.2 hp
def Gx:AL (List Int×List Int):=(.cons (.k (.list (.i .i64))) (.one (.k (.list (.i .i64)))))
def PU (d:List Int×List Int):Prop:=d.1.length≤1000
def Ma (d:List Int×List Int):SV:=.val .bo (d.1==d.2)
def Mu (d:List Int×List Int):List OB:=[]
def US:CSp:=YP Gx PU Ma Mu
def Yw (a:List Int) (b:List Int):Prop :=
 (((lI a) != (lI b))=true →
  (false=(a==b)∧(True))) ∧
 (((lI a) != (lI b))=false →
  ∃ (e2:Unit) (d20:Int),((a=a∧b=b∧(0:Int)=d20∧True)∧(True)) ∧
  LoopP (fun (d2:Int) (q2:(Int)→Prop) =>
   ((decide (d2<(lI a)))=true →
    (0≤d2)∧(d2<(List.length a))∧(0≤d2)∧(d2<(List.length b))∧(((gD a d2 0) != (gD b d2 0))=true →
     (false=(a==b)∧(True))) ∧
    (((gD a d2 0) != (gD b d2 0))=false →
     (I64 (d2+(1:Int)))∧(∃ d3:Int,((a=a∧b=b∧(d2+(1:Int))=d3∧True)∧(True))∧q2 d3))) ∧
   ((decide (d2<(lI a)))=false →
    (true=(a==b)∧(True)))) d20)
def Gj:Cx:=⟨[],[],26,[],0,[],[],[],[],false,[],[],[],[]⟩
def RV (a:List Int) (b:List Int):List (Nat×LoopAnn):=[(0,⟨Unit,Int,[0,1,5],fun e x=>[.val (.list (.i .i64)) a,.val (.list (.i .i64)) b,.val (.i .i64) x],fun e x=>[]⟩)]
theorem R_ (d:List Int×List Int):gwp (Gj) (RV d.1 d.2) c22 0 (Kl [.tmp 4] (Ma d) (Mu d)) (QC 26 (AL.can Gx d))=Yw d.1 d.2:=by kernel_rfl
abbrev Rl:Prop:=OkC Tryz.prog 22 US
theorem RW (h:∀ (a:List Int) (b:List Int),(a.length≤1000)→Yw a b):OkC Tryz.prog 22 US :=
 QP Q5f mixed (C:=Gj) (V:=fun (d:List Int×List Int)=>Yw d.1 d.2) ⟨.nil,XsOk.nil,ItsOk.nil,YlOk.nil,IysOk.nil,XfOk.nil⟩ (R_) fun d hp=>h d.1 d.2 hp
theorem RJ:Rl:=RW fun a b h=>by
 unfold Yw;(try delta lI gD sT I64 Kq pj8 pj4);simp only[true_and,and_true];refine⟨fun c=>?_,fun c=>?_⟩
 ·have c:¬ (a.length:Int)=b.length:=by simpa using c
  symm;rw[beq_eq_false_iff_ne];rintro rfl;exact c rfl
 ·have c:a.length=b.length:=by
   have:(a.length:Int)=b.length:=by simpa using c
   omega
  refine⟨(),0,(by and_intros<;>first|rfl|trivial|simp),?_⟩;refine LoopP.count a.length (fun k=>∀ j,j<k→a.getD j 0=b.getD j 0) (fun j hj=>by omega) ?_;rintro k hk hJ q hq;simp only[Int.toNat_natCast];refine⟨fun g=>?_,fun g=>?_⟩
  ·have g:k<a.length:=by have:=of_decide_eq_true g;omega
   refine⟨by omega,by omega,by omega,by omega,fun c2=>?_,fun c2=>?_⟩
   ·have c2:a.getD k 0≠b.getD k 0:=by simpa using c2
    symm;rw[beq_eq_false_iff_ne];rintro rfl;exact c2 rfl
   ·have c2:a.getD k 0=b.getD k 0:=by simpa using c2
    exact⟨by simp only[Qx];omega,(k:Int)+1,(by and_intros<;>first|rfl|trivial|simp),hq g fun j hj=>by
     by_cases e:j=k
     ·subst e;exact c2
     ·exact hJ j (by omega)⟩
  ·have g:k=a.length:=by have:=of_decide_eq_false g;omega
   subst g;symm;rw[beq_iff_eq];refine List.ext_getElem c fun i h1 h2=>?_;have:=hJ i h1
   rwa [Qk h1,Qk h2] at this
def MB:AL ((List (Int×Int×Bool))×List (Int×Int×Bool)):=(.cons (.k (.list (.pair (.i .i64) (.pair (.i .i64) .bo)))) (.one (.k (.list (.pair (.i .i64) (.pair (.i .i64) .bo))))))
def HB (d:(List (Int×Int×Bool))×List (Int×Int×Bool)):Prop:=d.1.length≤1000
def NA (d:(List (Int×Int×Bool))×List (Int×Int×Bool)):SV:=.val .bo (d.1==d.2)
def U_ (d:(List (Int×Int×Bool))×List (Int×Int×Bool)):List OB:=[]
def VW:CSp:=YP MB HB NA U_
def WK (a:List (Int×Int×Bool)) (b:List (Int×Int×Bool)):Prop :=
 (((lI a) != (lI b))=true →
  (false=(a==b)∧(True))) ∧
 (((lI a) != (lI b))=false →
  ∃ (e2:Unit) (d20:Int),((a=a∧b=b∧(0:Int)=d20∧True)∧(True)) ∧
  LoopP (fun (d2:Int) (q2:(Int)→Prop) =>
   ((decide (d2<(lI a)))=true →
    (0≤d2)∧(d2<(List.length a))∧(0≤d2)∧(d2<(List.length b))∧((!(((gD a d2 (0,(0,false))).1==(gD b d2 (0,(0,false))).1)&&(((gD a d2 (0,(0,false))).2.1==(gD b d2 (0,(0,false))).2.1)&&((gD a d2 (0,(0,false))).2.2==(gD b d2 (0,(0,false))).2.2))))=true →
     (false=(a==b)∧(True))) ∧
    ((!(((gD a d2 (0,(0,false))).1==(gD b d2 (0,(0,false))).1)&&(((gD a d2 (0,(0,false))).2.1==(gD b d2 (0,(0,false))).2.1)&&((gD a d2 (0,(0,false))).2.2==(gD b d2 (0,(0,false))).2.2))))=false →
     (I64 (d2+(1:Int)))∧(∃ d3:Int,((a=a∧b=b∧(d2+(1:Int))=d3∧True)∧(True))∧q2 d3))) ∧
   ((decide (d2<(lI a)))=false →
    (true=(a==b)∧(True)))) d20)
def Mi:Cx:=⟨[],[],26,[],0,[],[],[],[],false,[],[],[],[]⟩
def PK (a:List (Int×Int×Bool)) (b:List (Int×Int×Bool)):List (Nat×LoopAnn):=[(0,⟨Unit,Int,[0,1,5],fun e x=>[.val (.list (.pair (.i .i64) (.pair (.i .i64) .bo))) a,.val (.list (.pair (.i .i64) (.pair (.i .i64) .bo))) b,.val (.i .i64) x],fun e x=>[]⟩)]
theorem T3 (d:(List (Int×Int×Bool))×List (Int×Int×Bool)):gwp (Mi) (PK d.1 d.2) c69 0 (Kl [.tmp 4] (NA d) (U_ d)) (QC 26 (AL.can MB d))=WK d.1 d.2:=by kernel_rfl
abbrev Tc:Prop:=OkC Tryz.prog 69 VW
theorem T4 (h:∀ (a:List (Int×Int×Bool)) (b:List (Int×Int×Bool)),(a.length≤1000)→WK a b):OkC Tryz.prog 69 VW :=
 QP Q4m mixed (C:=Mi) (V:=fun (d:(List (Int×Int×Bool))×List (Int×Int×Bool))=>WK d.1 d.2) ⟨.nil,XsOk.nil,ItsOk.nil,YlOk.nil,IysOk.nil,XfOk.nil⟩ (T3) fun d hp=>h d.1 d.2 hp
theorem Pv:Tc:=T4 fun a b h=>by
 unfold WK;(try delta lI gD sT I64 Kq pj8 pj4);simp only[true_and,and_true];refine⟨fun c=>?_,fun c=>?_⟩
 ·have c:¬ (a.length:Int)=b.length:=by simpa using c
  symm;rw[beq_eq_false_iff_ne];rintro rfl;exact c rfl
 ·have c:a.length=b.length:=by
   have:(a.length:Int)=b.length:=by simpa using c
   omega
  refine⟨(),0,(by and_intros<;>first|rfl|trivial|simp),?_⟩;refine LoopP.count a.length (fun k=>∀ j,j<k→a.getD j XG=b.getD j XG) (fun j hj=>by omega) ?_;rintro k hk hJ q hq;have pb:∀ j,a.getD j (0,(0,false))=a.getD j XG:=fun _=>rfl;have ly:∀ j,b.getD j (0,(0,false))=b.getD j XG:=fun _=>rfl;simp only[Int.toNat_natCast,pb,ly];refine⟨fun g=>?_,fun g=>?_⟩
  ·have g:k<a.length:=by have:=of_decide_eq_true g;omega
   refine⟨by omega,by omega,by omega,by omega,fun c2=>?_,fun c2=>?_⟩
   ·symm;rw[beq_eq_false_iff_ne];rintro rfl;simp at c2
   ·have c2:a.getD k XG=b.getD k XG:=by
     simp only[Bool.not_eq_false',Bool.and_eq_true,beq_iff_eq] at c2;exact Prod.ext c2.1 (Prod.ext c2.2.1 c2.2.2)
    exact⟨by simp only[Qx];omega,(k:Int)+1,(by and_intros<;>first|rfl|trivial|simp),hq g fun j hj=>by
     by_cases e:j=k
     ·subst e;exact c2
     ·exact hJ j (by omega)⟩
  ·have g:k=a.length:=by have:=of_decide_eq_false g;omega
   subst g;symm;rw[beq_iff_eq];refine List.ext_getElem c fun i h1 h2=>?_;have:=hJ i h1
   rwa [Qk h1,Qk h2] at this
def GY:AL ((Int×List (Int×Int×Bool))×Int×List (Int×Int×Bool)):=(.cons (.agg (.cons (.k (.i .i64)) (.one (.k (.list (.pair (.i .i64) (.pair (.i .i64) .bo))))))) (.one (.agg (.cons (.k (.i .i64)) (.one (.k (.list (.pair (.i .i64) (.pair (.i .i64) .bo)))))))))
def Tp (d:(Int×List (Int×Int×Bool))×Int×List (Int×Int×Bool)):Prop:=d.1.2.length≤1000
def Ms (d:(Int×List (Int×Int×Bool))×Int×List (Int×Int×Bool)):SV:=.val .bo (d.1.1==d.2.1&&d.1.2==d.2.2)
def Mp (d:(Int×List (Int×Int×Bool))×Int×List (Int×Int×Bool)):List OB:=[]
def Nn:CSp:=YP GY Tp Ms Mp
def Yz (ha:Int) (a:List (Int×Int×Bool)) (hb:Int) (b:List (Int×Int×Bool)):Prop :=
 ((ha==hb)=true→a.length≤1000)∧(((ha==hb)&&(a==b))=(ha==hb&&a==b)∧(True))
def D4:Cx:=⟨[],[(69,VW)],17,[],0,[],[],[],[],false,[],[],[],[]⟩
def Su (ha:Int) (a:List (Int×Int×Bool)) (hb:Int) (b:List (Int×Int×Bool)):List (Nat×LoopAnn):=[]
theorem Rp (d:(Int×List (Int×Int×Bool))×Int×List (Int×Int×Bool)):gwp (D4) (Su d.1.1 d.1.2 d.2.1 d.2.2) c21 0 (Kl [.tmp 4] (Ms d) (Mp d)) (QC 17 (AL.can GY d))=Yz d.1.1 d.1.2 d.2.1 d.2.2:=by kernel_rfl
abbrev S8:Prop:=OkC Tryz.prog 21 Nn
theorem RE (h:∀ (ha:Int) (a:List (Int×Int×Bool)) (hb:Int) (b:List (Int×Int×Bool)),(a.length≤1000)→Yz ha a hb b):OkC Tryz.prog 21 Nn :=
 QP Q5h mixed (C:=D4) (V:=fun (d:(Int×List (Int×Int×Bool))×Int×List (Int×Int×Bool))=>Yz d.1.1 d.1.2 d.2.1 d.2.2) ⟨(.cons Pv .nil),XsOk.nil,ItsOk.nil,YlOk.nil,IysOk.nil,XfOk.nil⟩ (Rp) fun d hp=>h d.1.1 d.1.2 d.2.1 d.2.2 hp
theorem Rv:S8:=RE fun ha a hb b h=>by unfold Yz;(try delta lI gD sT I64 Kq pj8 pj4);exact⟨fun _=>h,rfl,trivial⟩
theorem Pz:Tf:=Ty fun hk cs a st h=>by
 obtain⟨h1,h2⟩:=h;unfold WE;(try delta lI gD sT I64 Kq pj8 pj4);have hd:∀ j,cs.getD j (0,(0,false))=cs.getD j XG:=fun _=>rfl;simp only[true_and,and_true,hd];refine⟨h1,fun c=>?_,fun c=>?_⟩
 ·have c:Q7 hk cs≠0:=by simpa using c
  have:=NY (a:=a) (st:=st) (e:=Q7 hk cs) (by unfold Qe;rw[if_pos c]) c;exact this
 ·have hb:Q7 hk cs=0:=by simpa using c
  obtain⟨hc,hle,aA,ah⟩:=UY hb;have bA:=List.length_pos_iff.2 aA;refine⟨by simp only[Qx];omega,fun c4=>?_,fun c4=>⟨fun c5=>?_,fun c5=>?_⟩⟩
  ·have:=NY (e:=7) (hk:=hk) (cs:=cs) (a:=a) (st:=st) (by unfold Qe;rw[hb,if_neg (by omega),if_pos c4]) (by omega);exact this
  ·have c5:=of_decide_eq_true c5;have:=NY (e:=5) (hk:=hk) (cs:=cs) (a:=a) (st:=st) (by unfold Qe;rw[hb,if_neg (by omega),if_neg (by rw[c4];decide),if_pos (by omega)]) (by omega);exact this
  ·have c5:=of_decide_eq_false c5;have ha:=V_ c4;refine⟨(),([],a,0),(by and_intros<;>first|rfl|trivial),?_⟩;refine⟨fun d=>∃ k:Nat,d.2.2=k∧k≤st.length∧d.1=Dn hk cs a st k∧d.2.1=atK cs.length a st k∧∀ j,j<k→inI (st.getD j 0) 0 2=true,fun d=>st.length-d.2.2.toNat,⟨0,rfl,by omega,rfl,rfl,fun j hj=>by omega⟩,?_⟩;rintro⟨l,p,k'⟩ ⟨k,f1,f2,f3,f4,f5⟩;dsimp only at f1 f3 f4 ⊢;subst f1 f3 f4;have aM:=Fp (n:=cs.length) (a:=a) (st:=st) bA (by omega) (by omega) k (fun j hj=>(V_ (by rw[f5 j hj];rfl)).1);simp only[Int.toNat_natCast];refine⟨fun g=>?_,fun g=>?_⟩
   ·have g:k<st.length:=by have:=of_decide_eq_true g;omega
    refine⟨by omega,by omega,fun c6=>?_,fun c6=>?_⟩
    ·have c7:(st.any fun s=>!inI s 0 2)=true:=List.any_eq_true.2 ⟨st.getD k 0,by rw[Qk g];exact List.getElem_mem g,c6⟩;have:=NY (e:=2) (hk:=hk) (cs:=cs) (a:=a) (st:=st) (by unfold Qe;rw[hb,if_neg (by omega),if_neg (by rw[c4];decide),if_neg (by omega),if_pos c7]) (by omega);exact this
    ·have c7:inI (st.getD k 0) 0 2=true:=by simpa using c6
     have hs:=V_ c6;have hl:=Hr hk cs a st k;have hj:(atK (cs.length) a st k).toNat<cs.length:=by omega
     have cU:=R8 (ah _ (show cs.getD (atK cs.length a st k).toNat XG∈cs by rw[Qk hj];exact List.getElem_mem hj));refine⟨aM.1,by omega,⟨hc.1,hc.2,cU.1,cU.2⟩,by simp only[List.length_cons,List.length_nil];omega,by omega,by omega,by simp only[Qx];omega,by omega,by simp only[Qx];omega,(Dn hk cs a st (k+1),atK cs.length a st (k+1),(k:Int)+1),?_,⟨k+1,by simp,by omega,rfl,rfl,fun j hj=>by
      by_cases e:j=k
      ·subst e;exact c7
      ·exact f5 j (by omega)⟩,by dsimp only;omega⟩
     rw[TP];and_intros<;>first|rfl|trivial|simp
   ·have g:k=st.length:=by have:=of_decide_eq_false g;omega
    subst g;have c7:(st.any fun s=>!inI s 0 2)=false:=List.any_eq_false.2 fun x hx=>by obtain⟨j,hj,rfl⟩:=List.getElem_of_mem hx;have:=f5 j hj;rw[Qk hj] at this;simp[this]
    have e0:Qe hk cs a st=0:=by unfold Qe;rw[hb,if_neg (by omega),if_neg (by rw[c4];decide),if_neg (by omega),if_neg (by rw[c7];decide)]
    have e1:Zc hk cs a st=atK cs.length a st st.length:=by unfold Zc;rw[if_pos e0]
    have e2:Jl hk cs a st=Dn hk cs a st st.length:=by unfold Jl;rw[if_pos e0]
    rw[e0,e1,e2];exact(by and_intros<;>first|rfl|trivial|simp)
end Go.Proofs.Tryz
namespace Go.V
open Go
theorem Q0k {P:Program}{σ:Heap}:Ret P σ (.val .bo true) [] (.bool true) σ :=
 ⟨⟨.refl _,Dead.refl _⟩,fun _=>rfl,Jq,fun j b hj=>by simp at hj,fun j j' i hj=>by simp at hj,by simp[SR,KC]⟩
theorem Q0h {P:Program}{f:Nat}(h:∀ (σ:Heap) (K:Value→Heap→Prop),K (.bool true) σ→VCalled P f [] σ K):OkC P f (YP (.nil:AL Unit) (fun _=>True) (fun _=>.val .bo true) (fun _=>[])):=by
 intro ap dP σ args vs c v bs aw hs hv b6 hc;unfold YP at hs;split at hs
 ·rename_i d hd;obtain⟨rfl,rfl,rfl⟩:=(by simpa using hs:True=c∧SV.val .bo true=v∧[]=bs);have:vs=[]:=by
   cases args with
   |nil=>simpa [SRs] using aw
   |cons a l=>simp[AL.dec] at hd
  subst this;refine⟨h σ _ Q0k,fun _ _=>h σ _ ⟨rfl,?_⟩⟩;unfold Bz;cases σ;simp only[List.length_nil,Nat.add_zero,List.getElem?_nil,Option.bind_none,Heap.mk.injEq,and_true];funext i;split
  ·rfl
  ·rename_i wf hi;exact wf i (by simpa using hi)
 ·cases hs
end Go.V
namespace Go.V
open Go Go.ChangeShapes Go.WideShapes Go.RowKit Go.Deep Go.Joins
def Heap.RO (σ:Heap):Prop:=∀ i b,σ.get i=some b→b.wr=false
structure View (w:World) (ρ:Plc) (σ:Heap):Prop where
 rel:HRel ρ σ w
 ro:σ.RO
structure More (ρ:Plc) (σ:Heap) (ρ':Plc) (σ':Heap):Prop where
 n:σ.n≤σ'.n
 pl:∀ i,i<σ.n→∀ p,ρ' i=some p→ρ i=some p
 ag:Agree σ σ'
theorem More.refl (ρ:Plc) (σ:Heap):More ρ σ ρ σ:=⟨Nat.le_refl _,fun _ _ _ h=>h,Agree.refl _⟩
theorem More.trans {ρ ρ' eu:Plc}{σ σ' aC:Heap}(h:More ρ σ ρ' σ') (k:More ρ' σ' eu aC):More ρ σ eu aC :=
 ⟨Nat.le_trans h.n k.n,fun i hi p hp=>h.pl i hi p (k.pl i (Nat.lt_of_lt_of_le hi h.n) p hp),h.ag.trans k.ag h.n⟩
def Z3o (w:World):Prop:=∀ g cs,OM g=some cs→∃ e f,w.heap[g]?=some (.cells cs.toArray e f)
theorem View.emptyT (w:World) (ht:Z3o w):View w (fun _=>none) Heap.empty where
 rel:=⟨⟨fun i b h=>(by cases h),fun _ _=>rfl,fun i p h=>(by cases h),fun i j p q b _ h=>(by cases h)⟩,fun g cs hg=>⟨ht g cs hg,fun ⟨_,_,_,h,_⟩=>by cases h⟩⟩
 ro:=fun i b h=>by cases h
theorem View.add {w:World}{ρ:Plc}{σ:Heap}(h:View w ρ σ) (p:Pl) (c:List Value) {C:Array Value}{e:TypeId}{f:Nat×Nat}(hb:w.heap[p.blk]?=some (.cells C e f)) (hs:p.shift+p.ext≤C.size) (hl:c.length≤p.ext) (ht:e=p.esz.ty)
  (hc:∀ (k:Nat) (v:Value),c[k]?=some v→∃ u,w.cell? ⟨p.blk,p.shift+k,none⟩=some u∧VRel ρ σ.n v u) :
  View w (ρ.put σ.n (some p)) (σ.push (.cells c p.esz false p.tight))∧More ρ σ (ρ.put σ.n (some p)) (σ.push (.cells c p.esz false p.tight)):=by
 have aT:∀ i,i<σ.n→∀ q,(ρ.put σ.n (some p)) i=some q→ρ i=some q:=fun i hi q hq=>by unfold Plc.put at hq;rwa [if_neg (by omega)] at hq
 have bJ:(σ.push (.cells c p.esz false p.tight)).RO:=fun i b hi=>by
  by_cases e:i=σ.n
  ·subst e;rw[Heap.get_push_self] at hi;obtain rfl:=osj hi;rfl
  ·rw[Heap.get_push_ne _ _ e] at hi;exact h.ro i b hi
 refine⟨⟨⟨⟨?_,?_,?_,?_⟩,fun g cs hg=>⟨(h.rel.tab g cs hg).1,fun ⟨i,_,b,_,hi,hw,_⟩=>by rw[bJ i b hi] at hw;cases hw⟩⟩,bJ⟩,⟨by simp,aT,fun i hi=>Heap.get_push_lt _ _ hi⟩⟩
 ·intro i b hi;by_cases aM:i=σ.n
  ·subst aM;rw[Heap.get_push_self] at hi;obtain rfl:=osj hi;refine⟨p,by simp[Plc.put],rfl,rfl,hl,⟨C,e,f,hb,hs,ht⟩,fun k v hk=>?_,fun h=>by cases h⟩;obtain⟨u,hu,hv⟩:=hc k v hk;exact⟨u,hu,hv.mono (by simp) aT⟩
  ·rw[Heap.get_push_ne _ _ aM] at hi;obtain⟨q,hq,hB⟩:=h.rel.live i b hi;exact⟨q,by simp[Plc.put,aM,hq],hB.mono (by simp) aT rfl⟩
 ·intro i hi;by_cases aM:i=σ.n
  ·subst aM;rw[Heap.get_push_self] at hi;cases hi
  ·rw[Heap.get_push_ne _ _ aM] at hi;simp[Plc.put,aM,h.rel.dead i hi]
 ·intro i q hq;by_cases aM:i=σ.n
  ·subst aM;simp[Plc.put] at hq;subst hq;exact(Array.getElem?_eq_some_iff.1 hb).1
  ·simp[Plc.put,aM] at hq;exact h.rel.lt i q hq
 ·intro i j q r b _ _ _ b9 hw _;rw[bJ i b b9] at hw;cases hw
theorem I6 {P:Program}{fits:TypeId→Bool}{d:Nat}{e:TypeId}{count off n:Nat}(h:rowAt P fits d e count off n=true):off≤count*P.cellsOf e:=by
 cases d with
 |zero=>cases h
 |succ d =>
  unfold rowAt at h;by_cases hs:P.cellsOf e=0
  ·simp[hs] at h
  ·have bA:0<P.cellsOf e:=Nat.pos_of_ne_zero hs;simp only[hs,if_false,Bool.or_eq_true,Bool.and_eq_true,beq_iff_eq,decide_eq_true_eq] at h;have hd:=Nat.div_add_mod off (P.cellsOf e);have hm:=Nat.mod_lt off bA;rcases h with⟨⟨h1,h2⟩,_⟩|⟨h1,_⟩
   ·have:P.cellsOf e*(off / P.cellsOf e)≤P.cellsOf e*count:=Nat.mul_le_mul_left _ (by omega);rw[Nat.mul_comm count];omega
   ·have:P.cellsOf e*(off / P.cellsOf e+1)≤P.cellsOf e*count:=Nat.mul_le_mul_left _ (by omega);rw[Nat.mul_add] at this;rw[Nat.mul_comm count];omega
theorem Ra {P:Program}:∀ {d:Nat}{e:TypeId}{count off:Nat}{u:TypeId}{n:Nat},liesAt P d e count off u n=true→off≤count*P.cellsOf e
 |0,_,_,_,_,_,h=>by cases h
 |d+1,e,count,off,u,n,h=>by
  unfold liesAt at h;rw[Bool.or_eq_true] at h;rcases h with h|h
  ·exact I6 h
  ·split at h
   ·exact Ra h
   ·cases h
theorem Fu {P:Program}{w:World}{r:Reach}{base:Nat}{a:Addr}{e:TypeId}{n:Nat}(h:w.has P r base a e n):∃ C row f,w.heap[a.block]?=some (.cells C row f)∧a.off≤C.size∧a.spot=none:=by
 obtain⟨_,hs,row,cells,eE,hl⟩:=h;unfold World.shape? at eE;split at eE
 ·rename_i C e' f hb;obtain⟨rfl,rfl⟩:=(by simpa using eE:e'=row∧C.size=cells);exact⟨C,e',f,hb,Nat.le_trans (Ra hl) (Nat.div_mul_le_self _ _),hs⟩
 ·cases eE
theorem LG {P:Program}{w:World}{r:Reach}{base:Nat}{t e:TypeId}{v:Value}(ht:P.underlying t=some (.slice e)) (h:Cell.okWide P w r base t v) :
  v=.slice none 0 0∨∃ a len cap,v=.slice (some a) len cap∧w.has P r base a e cap:=by
 unfold Cell.okWide at h;rw[ht] at h;have h':Cell.ok P w r base t v:=by split at h<;>first|exact h|simp_all
 unfold Cell.ok at h';rw[ht] at h';split at h'<;>first|exact .inl rfl|(cases h';done)|skip
 all_goals first|(rename_i h1 h2;simp_all;done)|skip
 all_goals first|(simp_all;exact⟨_,_,_,⟨rfl,rfl,rfl⟩,h'.2.2⟩)|(simp_all)
theorem Q8b {k:IntKind}{x:Int}(h:(Lit.int k x).wf=true):k.min≤x∧x≤k.max:=by simpa [Lit.wf] using h
theorem View.calls {P:Program}{f:FuncId}{w:World}{ρ:Plc}{σ:Heap}(h:View w ρ σ) {args:List Value}{ax:Array Value}(hl:LRel ρ σ.n args ax.toList) (hc:VCallsTo P f args σ fun v _=>v=.bool true) :
  Calls P f ax w fun e w'=>e=.returned (.bool true)∧Below w.heap.size w w':=by
 refine (hc ρ w ax h.rel hl).mono fun e w' ⟨c,he,v,ρ',σ',hv,hr,_,hx⟩=>?_;subst hv;have:c=.bool true:=by cases hr;rfl
 subst this;exact⟨he,hx.os,hx.tape,hx.output,hx.size,fun B hB=>hx.keep B hB fun ⟨i,p,b,_,hi,hw,_⟩=>by rw[h.ro i b hi] at hw;cases hw⟩
theorem GF {H:Type}{enc:TypeId×Value→H}{P:Program}(hl:laidOutB P=true) {W W':World}{sp:Nat→Bool}(hb:Below W.heap.size W W') :
  ∀ {ts:List TypeId}{vs:List Value}{ds:List (DataW H)}{ps:List MemPlace},(∀ t∈ts,P.readableRec t=true∧t<P.types.size)→DataW.TrodAll enc P W 0 (fun _=>true) true ts vs ds ps→(∀ p∈ps,p.block<W.heap.size)→(∀ p∈ps,sp p.block=true) →
   DataW.TrodAll enc P W' 0 sp true ts vs ds ps
 |[],vs,ds,ps,_,h,_,_=>by obtain⟨rfl,rfl,rfl⟩:=trodAll_nil h;rfl
 |t::ts,vs,ds,ps,ht,h,ai,hs=>by
  obtain⟨v,cJ,d,ds',p,q,rfl,rfl,rfl,h1,h2⟩:=trodAll_cons h;obtain⟨r1,r2⟩:=ht t (by simp);exact⟨p,q,WideElems.Trod_stays hl r1 r2 h1 (fun x hx=>hb.same (ai x (by simp[hx]))) (fun x hx=>hs x (by simp[hx])),
   GF hl hb (fun t lJ=>ht t (by simp[lJ])) h2 (fun x hx=>ai x (by simp[hx])) (fun x hx=>hs x (by simp[hx])),rfl⟩
theorem Ft {H:Type}{enc:TypeId×Value→H}{P:Program}{f:Func}{s:ChangeSpec}{apart fresh handsOn again:Bool}{W W':World}{args:Array Value}{ds gs:List (DataW H)}{before:List MemPlace}{tb:TypeId}
  (hl:laidOutB P=true) (hp:f.params.toList.all (fun t=>P.readableRec t&&decide (t<P.types.size))=true) (j5:s.vars=[]) (hr:f.resultTypes=#[tb]) (bw:P.underlying tb=some .bool) (hs:s.fn H ds={results:=[.lit (.bool true)],args:=ds})
  (hW:DataW.Whole enc P f.params.toList s.vars apart W args.toList ds gs before) (hb:Below W.heap.size W W'):s.post enc P f apart fresh handsOn again W args (.bool true) W':=by
 have ai:∀ p∈before,p.block<W.heap.size:=fun p hp=>hW.lt p hp;have tB:=hW;obtain⟨p,q,hA,hV,rfl,hz,hn⟩:=hW;rw[j5] at hV;obtain⟨rfl,rfl⟩:=trodVars_none hV;have bg:∀ t∈f.params.toList,P.readableRec t=true∧t<P.types.size:=fun t ht=>by have:=List.all_eq_true.1 hp t ht;simpa using this
 have eH:s.fn H (ds++[])={results:=[.lit (.bool true)],args:=ds}:=by rw[List.append_nil];exact hs
 have cX:∀ (b:Nat) (sp:Nat→Bool) (hd:Bool),DataW.TrodAll enc P W' b sp hd f.resultTypes.toList ((Value.bool true).resultList f.resultTypes.size) (s.fn H (ds++[])).results []:=fun b sp hd=>by rw[eH,hr];exact trodAll_mk1 (shut_bool bw _)
 have aw:∀ sp:Nat→Bool,(∀ x∈p++[],sp x.block=true)→DataW.TrodAll enc P W' 0 sp true f.params.toList args.toList (s.fn H (ds++[])).args p:=fun sp ep=>by rw[eH];exact GF hl hb bg hA (fun x hx=>ai x (by simp[hx])) (fun x hx=>ep x (by simp[hx]))
 have cB:∀ sp:Nat→Bool,DataW.TrodVars enc P W' sp s.vars (s.fn H (ds++[])).vars []:=fun sp=>by rw[eH,j5];rfl
 have hold:∀ x∈p++[],(fun b=>decide (b<W.heap.size)) x.block=true:=fun x hx=>by simpa using ai x hx
 refine⟨ds,[],p++[],[],p,[],tB,cX _ _ _,aw _ hold,cB _,World.keptBut_mono (fun x hx=>⟨hx,?_⟩) (hb.frame (·∈p++[])),fun _=>?_⟩
 ·exact .inr (by simpa using hx)
 ·refine⟨ok_one hr rfl (okWide_bool_mk bw _),_,_,([]++p)++[],⟨[]++p,[],trodAll_append (aw _ (fun _ _=>rfl)) (cX _ _ _),cB _,rfl,?_,?_⟩,?_⟩
  ·intro b off hx;have aM:MemPlace.cell b off∈p++[]:=by simpa using hx
   rw[hb.frozen (ai _ aM)];exact hz b off aM
  ·intro ha;simpa using hn ha
  ·intro x hx _;simpa using hx
def KFs (T:Kind→TypeId→Bool) (sz:TypeId→Nat):Kind→List (TypeId×Nat)→Nat→Bool
 |_,[],_=>false
 |k,[p],off=>p.2==off&&(sz p.1==k.size&&T k p.1)
 |.pair a b,p::q::r,off=>p.2==off&&(sz p.1==a.size&&(T a p.1&&KFs T sz b (q::r) (off+a.size)))
 |_,_::_::_,_=>false
def KTy (P:Program):Nat→Kind→TypeId→Bool
 |0,_,_=>false
 |n+1,k,t=>match P.underlying t with
  |some (.struct fs)=>P.cellsOf t==k.size&&KFs (KTy P n) P.cellsOf k (fs.toList.map fun f=>(f.type,f.offset)) 0
  |some (.array m e)=>P.cellsOf t==k.size&&KFs (KTy P n) P.cellsOf k ((List.range m).map fun i=>(e,i*P.cellsOf e)) 0
  |some (.int ik)=>(match k with|.i k'=>decide (k'=ik)|_=>false)
  |some .bool=>(match k with|.bo=>true|_=>false)
  |some .string=>(match k with|.st=>true|_=>false)
  |some (.slice e)=>(match k with|.list k'=>P.cellsOf e==k'.size&&(k'.flat&&KTy P n k' e)|_=>false)
  |_=>false
def KWf:(k:Kind)→k.T→Prop
 |.i ik,x=>InK ik x
 |.bo,_=>True
 |.st,s=>s.length≤maxLen
 |.list k,l=>l.length≤maxLen∧∀ x∈l,KWf k x
 |.pair a b,x=>KWf a x.1∧KWf b x.2
theorem More.le {ρ ρ':Plc}{σ σ':Heap}(h:More ρ σ ρ' σ'):σ.Le σ':=⟨h.n,fun i b hb=>by rw[h.ag i (σ.lt hb)];exact hb⟩
def ArgIs (w:World) (ρ:Plc) (σ:Heap) (k:Kind) (cs:List Value):Prop :=
 ∃ ρ' σ' vs x,View w ρ' σ'∧More ρ σ ρ' σ'∧LRel ρ' σ'.n vs cs∧KC σ' k x vs∧KWf k x
theorem ArgIs.pair {w:World}{ρ:Plc}{σ:Heap}{a b:Kind}{cs ds:List Value}(h1:ArgIs w ρ σ a cs) (h2:∀ ρ σ,View w ρ σ→ArgIs w ρ σ b ds):ArgIs w ρ σ (.pair a b) (cs++ds):=by obtain⟨ρ1,σ1,qT,x1,k1,k2,k3,k4,k5⟩:=h1;obtain⟨ρ2,σ2,jR,x2,m1,m2,m3,m4,m5⟩:=h2 ρ1 σ1 k1;exact⟨ρ2,σ2,qT++jR,(x1,x2),m1,k2.trans m2,(k3.mono m2.n m2.pl).append m3,⟨qT,jR,rfl,k4.mono m2.le,m4⟩,k5,m5⟩
section
variable {H:Type}{enc:TypeId×Value→H}{P:Program}{w:World}{r:Reach}{base:Nat}
def okc (P:Program) (w:World) (r:Reach) (base:Nat) (ts:List TypeId) (cs:List Value):Prop:=∀ (i:Nat) v u,cs[i]?=some v→ts[i]?=some u→Cell.okWide P w r base u v
theorem CG {T:Kind→TypeId→Bool}{sz:TypeId→Nat}{g:TypeId→Option (List TypeId)}(hT:∀ k t ts,T k t=true→g t=some ts→ts.length=k.size) :
  ∀ {k:Kind}{L:List (TypeId×Nat)}{off:Nat}{gB:List (List TypeId)},KFs T sz k L off=true→L.mapM (fun p=>g p.1)=some gB→gB.flatten.length=k.size
 |k,[],_,_,h,_=>by simp[KFs] at h
 |k,[p],off,gB,h,hm=>by
  simp only[KFs,Bool.and_eq_true] at h;cases hg:g p.1 with
  |none=>simp[hg] at hm
  |some ts =>simp[hg] at hm;subst hm;simpa using hT _ _ _ h.2.2 hg
 |.pair a b,p::q::r,off,gB,h,hm=>by
  simp only[KFs,Bool.and_eq_true] at h;rw[List.mapM_cons] at hm;cases hg:g p.1 with
  |none=>simp[hg] at hm
  |some ts =>
   cases hr:(q::r).mapM (fun p=>g p.1) with
   |none=>simp[hg,hr] at hm
   |some tr =>simp[hg,hr] at hm;subst hm;have:=CG hT h.2.2.2 hr;simp only[List.flatten_cons,List.length_append,this,hT _ _ _ h.2.2.1 hg,Kind.size]
 |.i _,_::_::_,_,_,h,_|.bo,_::_::_,_,_,h,_|.st,_::_::_,_,_,h,_|.list _,_::_::_,_,_,h,_=>by cases h
theorem GX {α β γ:Type}{f:α→β}{g:β→Option γ}:∀ (l:List α),(l.map f).mapM g=l.mapM (fun x=>g (f x))
 |[]=>rfl
 |a::l=>by simp only[List.map_cons,List.mapM_cons,GX l]
theorem Dj {β:Type}{x:β}{f:Nat→Option β}(h:∀ i,f i=some x):∀ l:List Nat,l.mapM f=some (List.replicate l.length x)
 |[]=>rfl
 |a::l=>by simp[List.mapM_cons,h,Dj h l,List.replicate_succ]
theorem CB:∀ {n:Nat}{k:Kind}{t:TypeId}{d:Nat}{ts:List TypeId},KTy P n k t=true→P.cellTypes d t=some ts→ts.length=k.size
 |0,_,_,_,_,h,_=>by cases h
 |_+1,_,_,0,_,_,h=>by cases h
 |n+1,k,t,d+1,ts,h,ht=>by
  have ih:∀ k t ts,KTy P n k t=true→P.cellTypes d t=some ts→ts.length=k.size:=fun k t ts h1 h2=>CB h1 h2;unfold Program.cellTypes at ht;unfold KTy at h;cases hu:P.underlying t with
  |none=>rw[hu] at h;cases h
  |some u =>
   rw[hu] at h ht;cases u<;>first|(cases h;done)|skip
   all_goals simp only at h ht
   ·split at h<;>first|(cases h;done)|(obtain rfl:=osj ht;rfl)
   ·split at h<;>first|(cases h;done)|(obtain rfl:=osj ht;rfl)
   ·split at h<;>first|(cases h;done)|(obtain rfl:=osj ht;rfl)
   ·split at h<;>first|(cases h;done)|(obtain rfl:=osj ht;rfl)
   ·rename_i m e;rw[Bool.and_eq_true] at h;cases hc:P.cellTypes d e with
    |none=>rw[hc] at ht;cases ht
    |some te =>rw[hc] at ht;obtain rfl:=osj ht;refine CG (g:=fun t=>P.cellTypes d t) ih h.2 ?_;rw[GX,Dj (x:=te) (fun _=>hc)];simp
   ·rename_i fs;rw[Bool.and_eq_true] at h;cases hc:fs.toList.mapM fun f=>P.cellTypes d f.type with
    |none=>rw[hc] at ht;cases ht
    |some gB =>rw[hc] at ht;obtain rfl:=osj ht;refine CG (g:=fun t=>P.cellTypes d t) ih h.2 ?_;rw[GX];exact hc
theorem Da {T:Kind→TypeId→Bool}{sz:TypeId→Nat}{Q:TypeId→List Value→Prop}{R:Kind→List Value→Prop}(hT:∀ k t cs,T k t=true→Q t cs→R k cs) (hR:∀ a b cs ds,R a cs→R b ds→R (.pair a b) (cs++ds)) (cs:List Value) :
  ∀ {k:Kind}{L:List (TypeId×Nat)}{off:Nat},KFs T sz k L off=true→(∀ p∈L,Q p.1 ((cs.drop p.2).take (sz p.1)))→R k ((cs.drop off).take k.size)
 |k,[],_,h,_=>by simp[KFs] at h
 |k,[p],off,h,hq=>by simp only[KFs,Bool.and_eq_true,beq_iff_eq] at h;have:=hq p (by simp);rw[h.1,h.2.1] at this;exact hT _ _ _ h.2.2 this
 |.pair a b,p::q::r,off,h,hq=>by
  simp only[KFs,Bool.and_eq_true,beq_iff_eq] at h;have h1:=hq p (by simp);rw[h.1,h.2.1] at h1;have h2:=Da hT hR cs h.2.2.2 fun x hx=>hq x (List.mem_cons_of_mem _ hx);have e:(cs.drop off).take (Kind.pair a b).size=(cs.drop off).take a.size++(cs.drop (off+a.size)).take b.size:=by rw[Kind.size,List.take_add,List.drop_drop]
  rw[e];exact hR _ _ _ _ (hT _ _ _ h.2.2.1 h1) h2
 |.i _,_::_::_,_,h,_|.bo,_::_::_,_,h,_|.st,_::_::_,_,h,_|.list _,_::_::_,_,h,_=>by cases h
def FlatIs (k:Kind) (cs:List Value):Prop:=∃ y:k.T,(∀ h,KC h k y cs)∧KWf k y∧∀ ρ m,LRel ρ m cs cs
theorem FlatIs.pair {a b:Kind}{cs ds:List Value}(h1:FlatIs a cs) (h2:FlatIs b ds):FlatIs (.pair a b) (cs++ds):=by obtain⟨x,k1,k2,k3⟩:=h1;obtain⟨y,m1,m2,m3⟩:=h2;exact⟨(x,y),fun h=>⟨cs,ds,rfl,k1 h,m1 h⟩,⟨k2,m2⟩,fun ρ m=>(k3 ρ m).append (m3 ρ m)⟩
theorem LRel.one {ρ:Plc}{n:Nat}{v c:Value}(h:VRel ρ n v c):LRel ρ n [v] [c]:=.cons h (.nil _ _)
theorem De {fs:Array Field}{f:Field}(h:f∈fs.toList):∃ i:Nat,fs[i]?=some f:=by obtain⟨i,hi,rfl⟩:=List.mem_iff_getElem.1 h;exact⟨i,by simp at hi;simp[hi]⟩
theorem RQ {sp:Nat→Bool}{held:Bool}:∀ {n:Nat}{k:Kind}{t:TypeId}{fuel:Nat}{cs:List Value}{x:DataW H×List MemPlace},KTy P n k t=true→k.flat=true→DataW.trod enc P w base sp held fuel t cs=some x→FlatIs k cs
 |0,_,_,_,_,_,h,_,_=>by cases h
 |n+1,k,t,fuel,cs,x,h,hf,hx=>by
  unfold KTy at h;cases hu:P.underlying t with
  |none=>rw[hu] at h;cases h
  |some u =>
   rw[hu] at h;have hR:∀ a b cs ds,((a.flat=true→FlatIs a cs)∧True)→((b.flat=true→FlatIs b ds)∧True)→(((Kind.pair a b).flat=true→FlatIs (.pair a b) (cs++ds))∧True):=fun a b cs ds h1 h2=>⟨fun hf=>by
    simp only[Kind.flat,Bool.and_eq_true] at hf;exact(h1.1 hf.1).pair (h2.1 hf.2),trivial⟩
   have hT:∀ k t cs,KTy P n k t=true→(∃ fuel x,DataW.trod enc P w base sp held fuel t cs=some x)→((k.flat=true→FlatIs k cs)∧True):=fun k t cs h1 ⟨fuel,x,h2⟩=>⟨fun hf=>RQ h1 hf h2,trivial⟩;cases u<;>first|(cases h;done)|skip
   all_goals simp only at h
   ·split at h<;>first|(cases h;done)|skip
    obtain⟨b,rfl,_⟩:=DataW.trod_bool hu hx;exact⟨b,fun _=>rfl,trivial,fun _ _=>.one (.bool _)⟩
   ·split at h<;>first|(cases h;done)|skip
    obtain rfl:=of_decide_eq_true h;obtain⟨z,rfl,_,hw⟩:=DataW.trod_int hu hx;exact⟨z,fun _=>rfl,Q8b hw,fun _ _=>.one (.int _ _)⟩
   ·split at h<;>first|(cases h;done)|skip
    obtain⟨s,rfl,_,hs⟩:=DataW.trod_string hu hx;exact⟨s.data.toList,fun _=>rfl,hs,fun _ _=>.one (.string _)⟩
   ·split at h<;>first|(cases h;done)|(cases hf;done)
   ·rename_i m e;simp only[Bool.and_eq_true,beq_iff_eq] at h;obtain⟨xs,m',_,_,hl,gv,hx⟩:=DataW.trod_array hu hx;have:=(Da (R:=fun k cs=>(k.flat=true→FlatIs k cs)∧True) hT hR cs h.2 fun p hp=>by
     simp only[List.mem_map,List.mem_range] at hp;obtain⟨i,hi,rfl⟩:=hp;have:=hx i hi;rw[List.getElem?_eq_getElem (by omega)] at this;exact⟨_,_,this⟩).1 hf
    rwa [List.drop_zero,List.take_of_length_le (by omega)] at this
   ·rename_i fs;simp only[Bool.and_eq_true,beq_iff_eq] at h;obtain⟨xs,m',_,_,hl,gv,hx⟩:=DataW.trod_struct hu hx;have:=(Da (R:=fun k cs=>(k.flat=true→FlatIs k cs)∧True) hT hR cs h.2 fun p hp=>by
     simp only[List.mem_map] at hp;obtain⟨f,kM,rfl⟩:=hp;obtain⟨i,hi⟩:=De kM;have:=hx i f hi;have gK:i<fs.size:=(Array.getElem?_eq_some_iff.1 hi).1;rw[List.getElem?_eq_getElem (by omega)] at this;exact⟨_,_,this⟩).1 hf
    rwa [List.drop_zero,List.take_of_length_le (by omega)] at this
theorem Rows.range {α:Type}{R:α→List Value→Prop}{n:Nat}{c:List Value}{x:Nat→α}:∀ (m:Nat),(∀ i,i<m→R (x i) ((c.drop (i*n)).take n))→Rows R ((List.range m).map x) (c.take (m*n))
 |0,_=>by simp;exact .nil
 |m+1,h=>by
  have e:c.take ((m+1)*n)=c.take (m*n)++(c.drop (m*n)).take n:=by rw[Nat.add_mul,Nat.one_mul,List.take_add]
  rw[List.range_succ,List.map_append,e];exact(Rows.range m fun i hi=>h i (by omega)).append (by simpa using Rows.cons (h m (by omega)) .nil)
theorem Lt {α:Type}[Inhabited α] {m:Nat}{p:Nat→α→Prop}(h:∀ i,i<m→∃ x,p i x):∃ f:Nat→α,∀ i,i<m→p i (f i) :=
 ⟨fun i=>if hi:i<m then (h i hi).choose else default,fun i hi=>by simp only[hi,dif_pos];exact(h i hi).choose_spec⟩
instance KInh (k:Kind):Inhabited k.T:=⟨k.dflt⟩
theorem View.list {ρ:Plc}{σ:Heap}(h:View w ρ σ) {n:Nat}{k:Kind}{t e:TypeId}{fuel:Nat}{cs:List Value}{x:DataW H×List MemPlace}(hu:P.underlying t=some (.slice e)) (hs:P.cellsOf e=k.size) (hf:k.flat=true) (hk:KTy P n k e=true)
  (hx:DataW.trod enc P w 0 (fun _=>true) true fuel t cs=some x) (ah:okc P w r base [t] cs):ArgIs w ρ σ (.list k) cs:=by
 rcases open_slice hu hx with⟨rfl,_⟩|⟨a,len,cap,m,fu,D,Pl,rfl,hb,hl,hm,gO,_,hel⟩
 ·exact⟨ρ,σ,[.slice none 0 0],[],h,More.refl _ _,.one .nilSl,⟨_,rfl,.inl ⟨rfl,rfl⟩⟩,by simp[maxLen],fun _ hx=>by cases hx⟩
 simp only[if_true] at gO;subst gO;rw[hs] at hel;have qe:w.has P r base a e m:=by
  rcases LG hu (ah 0 _ t rfl rfl) with hh|⟨a',tC,au,hh,h2⟩
  ·cases hh
  ·cases hh;exact h2
 obtain⟨C,row,f,aD,bn,ep⟩:=Fu qe;obtain⟨blk,off,spot⟩:=a;simp only at aD bn ep;subst ep;have kF:∀ i,(⟨blk,off,none⟩:Addr).add i=⟨blk,off+i,none⟩:=fun i=>by unfold Addr.add;split<;>simp_all
 obtain⟨X,hX⟩:=Lt (α:=k.T×List Value) (m:=m) (p:=fun i p=>p.2.length=k.size∧(∀ j,j<k.size→w.cell? ⟨blk,off+i*k.size+j,none⟩=p.2[j]?)∧(∀ h,KC h k p.1 p.2)∧KWf k p.1∧∀ ρ m,LRel ρ m p.2 p.2) fun i hi=>by
  obtain⟨cs',h1,h2⟩:=hel i hi;obtain⟨_,k1,k2⟩:=World.cells?_some h1;obtain⟨y,m1,m2,m3⟩:=RQ hk hf h2;refine⟨(y,cs'),k1,fun j hj=>?_,m1,m2,m3⟩;have:=k2 j hj;rw[kF] at this;have e2:(⟨blk,off+i*k.size,none⟩:Addr).add j=⟨blk,off+i*k.size+j,none⟩:=by unfold Addr.add;split<;>simp_all
  rw[e2] at this;exact this
 have bA:=k.size_pos;let c:List Value:=(List.range (m*k.size)).map fun j=>((X (j / k.size)).2[j % k.size]?).getD undef;have cy:c.length=m*k.size:=by simp[c]
 have hdiv:∀ j,j<m*k.size→j / k.size<m:=fun j hj=>Nat.div_lt_of_lt_mul (by rw[Nat.mul_comm];exact hj);have bu:∀ j,j<m*k.size→∃ v,c[j]?=some v∧w.cell? ⟨blk,off+j,none⟩=some v∧∀ ρ m,VRel ρ m v v:=fun j hj=>by
  have h1:=hX (j / k.size) (hdiv j hj);have fG:j % k.size<k.size:=Nat.mod_lt _ bA;have h2:=h1.2.1 _ fG;have e:off+j / k.size*k.size+j % k.size=off+j:=by rw[Nat.add_assoc,Nat.div_add_mod']
  rw[e] at h2;have h3:j % k.size<(X (j / k.size)).2.length:=by rw[h1.1];exact fG
  refine⟨(X (j / k.size)).2[j % k.size],?_,?_,fun ρ m=>(h1.2.2.2.2 ρ m).2 _ _ _ (List.getElem?_eq_getElem h3) (List.getElem?_eq_getElem h3)⟩
  ·simp only[c,List.getElem?_map,List.getElem?_range hj,Option.map_some,List.getElem?_eq_getElem h3,Option.getD_some]
  ·rw[h2,List.getElem?_eq_getElem h3]
 have qf:∀ i,i<m→(c.drop (i*k.size)).take k.size=(X i).2:=fun i hi=>by
  have h1:=hX i hi;have hle:i*k.size+k.size≤m*k.size:=by have:(i+1)*k.size≤m*k.size:=Nat.mul_le_mul_right _ hi;rw[Nat.add_mul] at this;omega
  apply List.ext_getElem?;intro j;by_cases hj:j<k.size
  ·rw[List.getElem?_take_of_lt hj,List.getElem?_drop];have eU:i*k.size+j<m*k.size:=by omega
   have e1:(i*k.size+j) / k.size=i:=by rw[Nat.mul_comm,Nat.mul_add_div bA,Nat.div_eq_of_lt hj,Nat.add_zero]
   have e2:(i*k.size+j) % k.size=j:=by rw[Nat.mul_comm,Nat.mul_add_mod,Nat.mod_eq_of_lt hj]
   have h3:j<(X i).2.length:=by rw[h1.1];exact hj
   simp only[c,List.getElem?_map,List.getElem?_range eU,Option.map_some,e1,e2,List.getElem?_eq_getElem h3,Option.getD_some]
  ·rw[List.getElem?_eq_none (by simp;omega),List.getElem?_eq_none (by omega)]
 have aI:off+m*k.size≤C.size:=by
  rcases Nat.eq_zero_or_pos (m*k.size) with h0|h0
  ·omega
  ·obtain⟨v,_,h2,_⟩:=bu (m*k.size-1) (by omega);unfold World.cell? at h2;simp only[aD] at h2;have:=(Array.getElem?_eq_some_iff.1 (by simpa using h2)).1;omega
 obtain⟨hv,l8⟩:=h.add ⟨blk,off,m*k.size,⟨k.size,row⟩,false⟩ c aD aI (by simp[cy]) rfl (fun j v hj=>by
  have cf:j<m*k.size:=by rw[←cy];exact(List.getElem?_eq_some_iff.1 hj).1
  obtain⟨v',h1,h2,h3⟩:=bu j cf;obtain rfl:=osj (hj.symm.trans h1);exact⟨v,h2,h3 _ _⟩)
 have hlen:((List.range len).map fun i=>(X i).1).length=len:=by simp
 refine⟨_,_,[.slice (some ⟨σ.n,0,none⟩) len m],(List.range len).map fun i=>(X i).1,hv,l8,.one ?_,⟨_,rfl,.inr ⟨σ.n,0,m,c,⟨k.size,row⟩,false,false,by rw[hlen],by rw[hlen];exact hl,Heap.get_push_self _ _,rfl,?_,?_⟩⟩,?_,fun y hy=>?_⟩
 ·refine .sl _ _ _ _ _ _ (by simp) fun p hp=>?_;simp[Plc.put] at hp;subst hp;exact⟨Nat.le_refl _,(fun h=>by cases h),0,by simp,by simp,.inl rfl⟩
 ·rw[hlen,cy,Nat.zero_add];exact Nat.mul_le_mul_right _ hl
 ·rw[hlen,List.drop_zero];refine Rows.range len fun i hi=>?_;rw[qf i (by omega)];exact(hX i (by omega)).2.2.1 _
 ·rw[hlen];exact Nat.le_trans hl hm
 ·obtain⟨i,hi,rfl⟩:=List.mem_map.1 hy;exact(hX i (by have:=List.mem_range.1 hi;omega)).2.2.2.1
def Kind.lev1:Kind→Bool
 |.list k=>k.flat
 |.pair a b=>a.lev1&&b.lev1
 |_=>true
theorem At {ts:List TypeId}{cs:List Value}(h:okc P w r base ts cs) (o n:Nat):okc P w r base ((ts.drop o).take n) ((cs.drop o).take n):=fun i v u h1 h2=>by
 have hi:i<n:=by have:=(List.getElem?_eq_some_iff.1 h1).1;rw[List.length_take] at this;omega
 rw[List.getElem?_take_of_lt hi,List.getElem?_drop] at h1 h2;exact h _ v u h1 h2
theorem HL {T:Kind→TypeId→Bool}{sz:TypeId→Nat}{g:TypeId→Option (List TypeId)}(hT:∀ k t ts,T k t=true→g t=some ts→ts.length=k.size) :
  ∀ {k:Kind}{L:List (TypeId×Nat)}{off:Nat}{gB:List (List TypeId)},KFs T sz k L off=true→L.mapM (fun p=>g p.1)=some gB→∀ p∈L,off≤p.2∧g p.1=some ((gB.flatten.drop (p.2-off)).take (sz p.1))
 |k,[],_,_,h,_=>by simp[KFs] at h
 |k,[p],off,gB,h,hm=>by
  simp only[KFs,Bool.and_eq_true,beq_iff_eq] at h;intro p' hp;obtain rfl:=List.mem_singleton.1 hp;cases hg:g p'.1 with
  |none=>simp[hg] at hm
  |some ts =>
   simp[hg] at hm;subst hm;refine⟨by omega,?_⟩;rw[h.1,Nat.sub_self,List.drop_zero,h.2.1,List.take_of_length_le]
   ·simp
   ·simp[hT _ _ _ h.2.2 hg]
 |.pair a b,p::q::r,off,gB,h,hm=>by
  simp only[KFs,Bool.and_eq_true,beq_iff_eq] at h;rw[List.mapM_cons] at hm;intro p' hp;cases hg:g p.1 with
  |none=>simp[hg] at hm
  |some ts =>
   cases hr:(q::r).mapM (fun p=>g p.1) with
   |none=>simp[hg,hr] at hm
   |some tr =>
    simp[hg,hr] at hm;subst hm;have hlen:=hT _ _ _ h.2.2.1 hg;rcases List.mem_cons.1 hp with rfl|hp
    ·refine⟨by omega,?_⟩;rw[hg,h.1,Nat.sub_self,List.drop_zero,h.2.1,List.flatten_cons,List.take_append,←hlen,Nat.sub_self,List.take_zero,List.append_nil,List.take_length]
    ·obtain⟨h1,h2⟩:=HL hT h.2.2.2 hr p' hp;refine⟨by omega,?_⟩;have e1:ts.drop (p'.2-off)=[]:=List.drop_eq_nil_of_le (by omega);have e2:p'.2-off-a.size=p'.2-(off+a.size):=by omega
     rw[h2,List.flatten_cons,List.drop_append,hlen,e1,e2,List.nil_append]
 |.i _,_::_::_,_,_,h,_|.bo,_::_::_,_,_,h,_|.st,_::_::_,_,_,h,_|.list _,_::_::_,_,_,h,_=>by cases h
theorem RL:∀ {n:Nat}{k:Kind}{t:TypeId}{d:Nat}{ts:List TypeId}{fuel:Nat}{cs:List Value}{x:DataW H×List MemPlace},KTy P n k t=true→k.lev1=true→P.cellTypes d t=some ts→okc P w r base ts cs→DataW.trod enc P w 0 (fun _=>true) true fuel t cs=some x→∀ ρ σ,View w ρ σ→ArgIs w ρ σ k cs
 |0,_,_,_,_,_,_,_,h,_,_,_,_=>by cases h
 |_+1,_,_,0,_,_,_,_,_,_,h,_,_=>by cases h
 |n+1,k,t,d+1,ts,fuel,cs,x,h,hf,eN,ah,hx=>by
  intro ρ σ hv;by_cases bz:k.flat=true
  ·obtain⟨y,h1,h2,h3⟩:=RQ h bz hx;exact⟨ρ,σ,cs,y,hv,More.refl _ _,h3 _ _,h1 _,h2⟩
  unfold KTy at h;cases hu:P.underlying t with
  |none=>rw[hu] at h;cases h
  |some u =>
   rw[hu] at h;let Q:TypeId→List Value→Prop:=fun t cs=>(∃ fuel x,DataW.trod enc P w 0 (fun _=>true) true fuel t cs=some x)∧∃ ts,P.cellTypes d t=some ts∧okc P w r base ts cs;let R:Kind→List Value→Prop:=fun k cs=>k.lev1=true→∀ ρ σ,View w ρ σ→ArgIs w ρ σ k cs;have hR:∀ a b cs ds,R a cs→R b ds→R (.pair a b) (cs++ds):=fun a b cs ds h1 h2 hl ρ σ hv=>by simp only[Kind.lev1,Bool.and_eq_true] at hl;exact(h1 hl.1 ρ σ hv).pair fun ρ σ hv=>h2 hl.2 ρ σ hv
   have hT:∀ k t cs,KTy P n k t=true→Q t cs→R k cs:=fun k t cs h1 ⟨⟨fuel,x,h2⟩,ts,h3,h4⟩ hl=>RL h1 hl h3 h4 h2;have hlen:∀ k t ts,KTy P n k t=true→P.cellTypes d t=some ts→ts.length=k.size:=fun k t ts h1 h2=>CB h1 h2;unfold Program.cellTypes at eN;rw[hu] at eN;cases u<;>first|(cases h;done)|skip
   all_goals simp only at h
   ·split at h<;>first|(cases h;done)|(exact absurd rfl bz)
   ·split at h<;>first|(cases h;done)|(exact absurd rfl bz)
   ·split at h<;>first|(cases h;done)|(exact absurd rfl bz)
   ·rename_i e;split at h<;>first|(cases h;done)|skip
    simp only[Bool.and_eq_true,beq_iff_eq] at h;simp only[Option.some.injEq] at eN;subst eN;exact hv.list hu h.1 h.2.1 h.2.2 hx ah
   ·rename_i m e;simp only[Bool.and_eq_true,beq_iff_eq] at h;obtain⟨xs,m',_,_,hl,gv,hx⟩:=DataW.trod_array hu hx;simp only at eN;cases hc:P.cellTypes d e with
    |none=>rw[hc] at eN;cases eN
    |some te =>
     rw[hc] at eN;obtain rfl:=osj eN;have mR:((List.range m).map fun i=>(e,i*P.cellsOf e)).mapM (fun p:TypeId×Nat=>P.cellTypes d p.1)=some (List.replicate m te):=by rw[GX,Dj (x:=te) (fun _=>hc)];simp
     have:=Da (Q:=Q) (R:=R) hT hR cs h.2 (fun p hp=>by
      have ju:=HL (g:=fun t=>P.cellTypes d t) hlen h.2 mR p hp;simp only[List.mem_map,List.mem_range] at hp;obtain⟨i,hi,rfl⟩:=hp;have:=hx i hi;rw[List.getElem?_eq_getElem (by omega)] at this;exact⟨⟨_,_,this⟩,_,ju.2,At ah _ _⟩) hf ρ σ hv
     rwa [List.drop_zero,List.take_of_length_le (by omega)] at this
   ·rename_i fs;simp only[Bool.and_eq_true,beq_iff_eq] at h;obtain⟨xs,m',_,_,hl,gv,hx⟩:=DataW.trod_struct hu hx;simp only at eN;cases hc:fs.toList.mapM fun f=>P.cellTypes d f.type with
    |none=>rw[hc] at eN;cases eN
    |some gB =>
     rw[hc] at eN;obtain rfl:=osj eN;have mR:(fs.toList.map fun f=>(f.type,f.offset)).mapM (fun p:TypeId×Nat=>P.cellTypes d p.1)=some gB:=by rw[GX];exact hc
     have:=Da (Q:=Q) (R:=R) hT hR cs h.2 (fun p hp=>by
      have ju:=HL (g:=fun t=>P.cellTypes d t) hlen h.2 mR p hp;simp only[List.mem_map] at hp;obtain⟨f,kM,rfl⟩:=hp;obtain⟨i,hi⟩:=De kM;have:=hx i f hi;have gK:i<fs.size:=(Array.getElem?_eq_some_iff.1 hi).1;rw[List.getElem?_eq_getElem (by omega)] at this;exact⟨⟨_,_,this⟩,_,ju.2,At ah _ _⟩) hf ρ σ hv
     rwa [List.drop_zero,List.take_of_length_le (by omega)] at this
def isAgg (P:Program) (t:TypeId):Bool:=match P.underlying t with
 |some (.struct _)=>true
 |some (.array _ _)=>true
 |_=>false
theorem View.arg {ρ:Plc}{σ:Heap}(h:View w ρ σ) {n:Nat}{k:Kind}{t:TypeId}{v:Value}{d:DataW H}{p:List MemPlace}(hk:KTy P n k t=true) (hl:k.lev1=true) (ha:isAgg P t=!k.one) (ah:Value.okWide P w r base t v) (hd:DataW.Trod enc P w 0 (fun _=>true) true t v d p) :
  ∃ ρ' σ' vv x,View w ρ' σ'∧More ρ σ ρ' σ'∧VRel ρ' σ'.n vv v∧KV σ' k x vv∧KWf k x:=by
 obtain⟨fuel,hd⟩:=hd;by_cases dY:isAgg P t=true
 ·have bO:k.one=false:=by rw[dY] at ha;simpa using ha.symm
  have:∃ cs,v=.agg cs∧cs.size=P.cellsOf t∧Row.okWide P w r base t cs:=by
   unfold isAgg at dY;unfold Value.okWide at ah;split at dY<;>first|(cases dY;done)|skip
   ·rename_i hu;rw[hu] at ah;exact ah
   ·rename_i hu;rw[hu] at ah;exact ah
  obtain⟨cs,rfl,aI,ts,eN,_,cI⟩:=this;have hlen:=CB hk eN;have az:P.cellsOf t=k.size:=by
   unfold isAgg at dY;cases n with
   |zero=>cases hk
   |succ n =>
    unfold KTy at hk;split at dY<;>first|(cases dY;done)|skip
    all_goals
     rename_i hu;rw[hu] at hk;simp only[Bool.and_eq_true,beq_iff_eq] at hk;exact hk.1
  have lC:okc P w r base ts cs.toList:=fun i v u h1 h2=>by have hi:i<ts.length:=(List.getElem?_eq_some_iff.1 h2).1;obtain⟨u',h3,h4⟩:=cI i v (by simpa using h1);rw[Nat.mod_eq_of_lt hi] at h3;obtain rfl:=osj (h2.symm.trans h3);exact h4
  obtain⟨ρ',σ',vs,x,k1,k2,k3,k4,k5⟩:=RL hk hl eN lC (show DataW.trod enc P w 0 _ true fuel t cs.toList=_ from hd) ρ σ h;exact⟨ρ',σ',.agg vs.toArray,x,k1,k2,VRel.agg_of (ds:=cs.toList) k3,.inr ⟨bO,vs,rfl,k4⟩,k5⟩
 ·have bO:k.one=true:=by
   have:isAgg P t=false:=by simpa using dY
   rw[this] at ha;simpa using ha.symm
  have g8:=Kind.one_size bO;have bu:Cell.okWide P w r base t v∧v.cells.toList=[v]:=by
   have h1:isAgg P t=false:=by simpa using dY
   unfold isAgg at h1;have h2:Cell.okWide P w r base t v:=by
    unfold Value.okWide at ah;split at ah
    ·rename_i hu;rw[hu] at h1;cases h1
    ·rename_i hu;rw[hu] at h1;cases h1
    ·exact ah
   refine⟨h2,?_⟩;cases v<;>first|rfl|skip
   all_goals
    exfalso;cases n with
    |zero=>cases hk
    |succ n =>
     unfold KTy at hk;unfold Cell.okWide Cell.ok at h2;cases hu:P.underlying t with
     |none=>rw[hu] at hk;cases hk
     |some u =>rw[hu] at hk h2 h1;cases u<;>first|(cases hk;done)|(cases h1;done)|(cases h2;done)|(simp at h2;done)
  have eN:P.cellTypes 1 t=some [t]:=by
   have h1:isAgg P t=false:=by simpa using dY
   unfold isAgg at h1;unfold Program.cellTypes;cases n with
   |zero=>cases hk
   |succ n =>
    unfold KTy at hk;cases hu:P.underlying t with
    |none=>rw[hu] at hk;cases hk
    |some u =>rw[hu] at h1;cases u<;>first|rfl|(cases h1;done)
  rw[bu.2] at hd;have lC:okc P w r base [t] [v]:=fun i v' u h1 h2=>by
   cases i with
   |zero=>cases h1;cases h2;exact bu.1
   |succ i=>simp at h1
  obtain⟨ρ',σ',vs,x,k1,k2,k3,k4,k5⟩:=RL hk hl eN lC hd ρ σ h;have:vs.length=1:=by rw[KC.length k4];exact g8
  obtain⟨vv,rfl⟩:=List.length_eq_one_iff.1 this;exact⟨ρ',σ',vv,x,k1,k2,k3.2 0 _ _ rfl rfl,.inl ⟨bO,k4⟩,k5⟩
def AWf:(ks:List Kind)→AT ks→Prop
 |[],_=>True
 |[k],x=>KWf k x
 |k::k'::ks,x=>KWf k x.1∧AWf (k'::ks) x.2
def Q6c (P:Program):List Kind→List TypeId→Bool
 |[],[]=>true
 |k::ks,t::ts=>(KTy P 8 k t&&(k.lev1&&(isAgg P t==!k.one)))&&Q6c P ks ts
 |_,_=>false
theorem View.args:∀ {ks:List Kind}{ts:List TypeId}{vs:List Value}{ds:List (DataW H)}{ps:List MemPlace}{ρ:Plc}{σ:Heap},View w ρ σ→Q6c P ks ts=true→(∀ (j:Nat) t v,ts[j]?=some t→vs[j]?=some v→Value.okWide P w r base t v)→DataW.TrodAll enc P w 0 (fun _=>true) true ts vs ds ps →
  ∃ ρ' σ' l9 x,View w ρ' σ'∧More ρ σ ρ' σ'∧LRel ρ' σ'.n l9 vs∧TR σ' ks x l9∧AWf ks x
 |[],[],vs,ds,ps,ρ,σ,h,_,_,hA=>by obtain⟨rfl,rfl,rfl⟩:=trodAll_nil hA;exact⟨ρ,σ,[],(),h,More.refl _ _,.nil _ _,rfl,trivial⟩
 |[k],[t],vs,ds,ps,ρ,σ,h,hk,hv,hA=>by obtain⟨v,cJ,d,ds',p,q,rfl,rfl,rfl,h1,h2⟩:=trodAll_cons hA;obtain⟨rfl,rfl,rfl⟩:=trodAll_nil h2;simp only[Q6c,Bool.and_eq_true,beq_iff_eq] at hk;obtain⟨ρ',σ',vv,x,k1,k2,k3,k4,k5⟩:=h.arg hk.1.1 hk.1.2.1 hk.1.2.2 (hv 0 t v rfl rfl) h1;exact⟨ρ',σ',[vv],x,k1,k2,.one k3,⟨vv,rfl,k4⟩,k5⟩
 |k::k'::ks,t::ts,vs,ds,ps,ρ,σ,h,hk,hv,hA=>by obtain⟨v,cJ,d,ds',p,q,rfl,rfl,rfl,h1,h2⟩:=trodAll_cons hA;simp only[Q6c,Bool.and_eq_true,beq_iff_eq] at hk;obtain⟨ρ1,σ1,vv,x,k1,k2,k3,k4,k5⟩:=h.arg hk.1.1 hk.1.2.1 hk.1.2.2 (hv 0 t v rfl rfl) h1;obtain⟨ρ2,σ2,l9,y,m1,m2,m3,m4,m5⟩:=k1.args (ks:=k'::ks) hk.2 (fun j t v h1 h2=>hv (j+1) t v h1 h2) h2;exact⟨ρ2,σ2,vv::l9,(x,y),m1,k2.trans m2,.cons (k3.mono m2.n m2.pl) m3,⟨vv,l9,rfl,k4.vcall m2.le,m4⟩,k5,m5⟩
 |[],_::_,_,_,_,_,_,_,hk,_,_|_::_,[],_,_,_,_,_,_,hk,_,_|[_],_::_::_,_,_,_,_,_,_,hk,_,_=>by simp[Q6c] at hk
theorem Fg (hT:Z3o w) {f:Nat}{sp:CSp}(ep:OkC P f sp) (he:X6 P f) {ks:List Kind}{ts:List TypeId}{args:Array Value}{ds:List (DataW H)}{ps:List MemPlace}(hk:Q6c P ks ts=true)
  (hv:∀ (j:Nat) t v,ts[j]?=some t→args.toList[j]?=some v→Value.okWide P w r base t v) (hA:DataW.TrodAll enc P w 0 (fun _=>true) true ts args.toList ds ps)
  (hs:∀ x:AT ks,AWf ks x→∃ c,sp (fun _ _=>none) (Sg ks x)=some (c,.val .bo true,[])∧c):Calls P f args w fun e w'=>e=.returned (.bool true)∧Below w.heap.size w w':=by
 obtain⟨ρ,σ,l9,x,k1,k2,k3,k4,k5⟩:=(View.emptyT w hT).args hk hv hA;obtain⟨c,h1,h2⟩:=hs x k5;exact k1.calls k3 (ep.true he (MP k4) h1 h2)
end
end Go.V
namespace Go.V
open Go
theorem Pb {H:Type}{enc:TypeId×Value→H}{P:Program}{w:World}{b:Nat}{sp:Nat→Bool}{hd:Bool}:∀ {ts:List TypeId}{vs:List Value}{ds:List (DataW H)}{ps:List MemPlace},DataW.TrodAll enc P w b sp hd ts vs ds ps→ds.length=ts.length
 |[],[],[],_,_=>rfl
 |t::ts,v::vs,d::ds,ps,h=>by obtain⟨p,q,_,h2,_⟩:=h;simp[Pb h2]
 |[],[],_::_,_,h|[],_::_,_,_,h|_::_,[],_,_,h|_::_,_::_,[],_,h=>h.elim
end Go.V
namespace Go.Proofs.Tryz
open Go Go.V
def Z4b:List (Option FEnt):=[
 none,
 none,
 some (.code c2 [] 1),
 some (.code c3 [.tmp 2] 84),
 some (.code c4 [.tmp 4] 203),
 some (.code c5 [.tmp 2] 92),
 some (.code c6 [.tmp 6] 129),
 some (.code c7 [.tmp 4] 283),
 some (.code c8 [.tmp 6] 207),
 some (.code c9 [.tmp 2] 249),
 some (.code c10 [.tmp 6] 205),
 some (.code c11 [.tmp 2] 265),
 some (.code c12 [.tmp 4] 132),
 some (.code c13 [.tmp 4] 228),
 some (.code c14 [.tmp 6] 133),
 some (.code c15 [.tmp 0] 226),
 some (.code c16 [.cell 2 true 2] 9),
 some (.codeJ c17 [.tmp 2,.tmp 3] 49),
 some (.codeJ c18 [.cell 2 true 2,.tmp 3] 34),
 some (.code c19 [.tmp 2] 32),
 some (.code c20 [.tmp 2] 45),
 some (.code c21 [.tmp 4] 17),
 some (.code c22 [.tmp 4] 26),
 some (.code c23 [.tmp 2] 74),
 some (.code c24 [.cell 2 true 2] 44),
 some (.code c25 [.tmp 2] 6),
 some (.codeJ c26 [.tmp 4,.tmp 5,.tmp 6,.tmp 7] 79),
 some (.code c27 [.tmp 6,.tmp 7] 29),
 some (.code c28 [.tmp 6,.tmp 7] 33),
 some (.code c29 [.tmp 4] 15),
 some (.code c30 [.tmp 6] 15),
 some (.code c31 [.cell 4 true 4,.tmp 5] 41),
 some (.code c32 [.tmp 6,.tmp 7] 60),
 some (.code c33 [.tmp 2] 37),
 some (.code c34 [.cell 2 true 3] 34),
 some (.code c35 [.tmp 2] 36),
 some (.codeJ c36 [.tmp 2,.tmp 3] 34),
 some (.codeJ c37 [.cell 2 false 1,.tmp 3] 44),
 some (.code c38 [.tmp 2] 78),
 some (.code c39 [.tmp 4] 63),
 some (.code c40 [.tmp 2] 5),
 some (.code c41 [.tmp 4] 27),
 some (.codeJ c42 [.tmp 6,.tmp 7] 57),
 some (.codeJ c43 [.tmp 2,.tmp 3] 45),
 some (.code c44 [.tmp 8] 46),
 some (.code c45 [.tmp 4] 66),
 some (.code c46 [.cell 2 true 2] 50),
 some (.codeJ c47 [.cell 2 true 2,.tmp 3] 54),
 some (.codeJ c48 [.tmp 6,.tmp 7,.tmp 8] 58),
 some (.code c49 [.tmp 4] 20),
 some (.code c50 [.tmp 4] 16),
 some (.code c51 [.cell 2 true 2] 74),
 some (.code c52 [.tmp 4] 52),
 some (.code c53 [.cell 2 true 2] 37),
 some (.code c54 [.tmp 4,.tmp 5,.tmp 6,.tmp 7,.tmp 8] 91),
 some (.code c55 [.cell 2 true 3,.tmp 3] 165),
 some (.code c56 [.tmp 4] 37),
 some (.code c57 [.tmp 2] 11),
 some (.code c58 [.cell 2 true 2,.tmp 3] 54),
 some (.code c59 [.tmp 6,.tmp 7,.tmp 8] 65),
 some (.code c60 [.cell 0 true 2] 8),
 some (.code c61 [.cell 2 true 3] 23),
 some (.code c62 [.cell 2 true 3,.tmp 3] 43),
 some (.code c63 [.tmp 4] 25),
 some (.code c64 [.tmp 4] 12),
 some (.code c65 [.tmp 2] 4),
 some (.code c66 [.tmp 4] 10),
 some (.code c67 [.tmp 4] 20),
 some (.code c68 [.tmp 4] 14),
 some (.code c69 [.tmp 4] 26),
 some (.code c70 [.tmp 4] 55),
 some (.code c71 [.tmp 4] 41),
 some (.code c72 [.tmp 4] 33),
 some (.code c73 [.cell 4 true 4,.tmp 5] 33),
 some (.code c74 [.tmp 2] 70),
 some (.code c75 [.tmp 2] 25),
 some (.code c76 [.tmp 4] 19),
 some (.code c77 [.tmp 2] 5),
 some (.code c78 [.tmp 6] 15),
 some (.code c79 [.tmp 6,.tmp 7] 28),
 some (.code c80 [.tmp 2] 9),
 some (.code c81 [.tmp 2] 4),
 some (.code c82 [.tmp 4] 30),
 some (.code c83 [.tmp 4] 24),
 some (.code c84 [.tmp 2] 7),
 some (.code c85 [.tmp 3] 9),
 some (.code c86 [.tmp 4] 16),
 some (.code c87 [.tmp 2] 6),
 some (.code c88 [.tmp 6] 11),
 some (.code c89 [.tmp 4] 9),
 some (.code c90 [.cell 4 false 1] 39),
 some (.code c91 [.tmp 4] 76),
 some (.code c92 [.cell 6 false 1] 110),
 some (.code c93 [.tmp 4] 26),
 some (.code c94 [.tmp 4] 19),
 some (.code c95 [.tmp 6] 29),
 some (.code c96 [.tmp 4] 9),
 some (.code c97 [.tmp 2] 9),
 some (.code c98 [.tmp 6] 88),
 some (.code c99 [.tmp 4] 6),
 some (.code Z1y [.tmp 4] 9),
 some (.code Z1k [.tmp 4] 23),
 some (.code Z0l [.tmp 4] 10),
 some (.code Z0b [.cell 2 true 3,.tmp 3] 30),
 some (.code Q9v [.tmp 4] 26),
 some (.code Q9u [.tmp 4] 11),
 some (.code Z1h [.cell 2 true 3] 5),
 some (.code Z3m [.cell 6 false 1] 73),
 some (.code Z2b [.tmp 2] 5),
 some (.code Z2z [] 14),
 some (.code Z3b [] 16),
 some (.code Z0s [.tmp 2] 6),
 some (.code Z06 [.tmp 3] 14),
 some (.code Q9t [.tmp 4] 9),
 some (.code Z2n [.tmp 2] 4),
 some (.code Z1q [.tmp 4] 48),
 some (.code Z0j [.tmp 6] 25),
 some (.code Z3i [] 28),
 some (.code Z0r [.tmp 4] 52),
 some (.code Z0k [.tmp 2] 5),
 some (.code Z0f [] 11),
 some (.code Z0i [] 14),
 some (.code Z0y [.tmp 6] 79),
 some (.code Z0g [.tmp 3] 17),
 some (.code Z0q [.tmp 4] 9),
 some (.code Z0d [.tmp 4] 13),
 some (.code Z1w [.tmp 4] 19),
 some (.code Z17 [.tmp 6] 8),
 some (.code Z33 [] 14),
 some (.code Z26 [.tmp 4] 36),
 some (.code Z3h [.tmp 4] 66),
 some (.code Z2v [.tmp 4] 26),
 some (.code Z2o [.tmp 6] 22),
 some (.code Z0x [.tmp 3] 12),
 some (.code Z3d [.tmp 4] 143),
 some (.code Z1n [] 31),
 some (.code Z15 [.tmp 4] 19),
 some (.code Z0p [.tmp 4] 13),
 some (.code Z10 [.tmp 4] 6),
 some (.code Z1o [.tmp 4] 13),
 some (.code Z1m [] 148),
 some (.code Z0a [.tmp 2] 8),
 some (.code Q9z [.tmp 4] 19),
 some (.code Z2c [] 19),
 some (.code Z23 [.tmp 4,.tmp 5] 30),
 some (.code Q9r [] 39),
 some (.code Z01 [.tmp 4] 13),
 some (.code Q9s [] 134),
 some (.code Z02 [.tmp 4] 19),
 some (.code Z12 [] 45),
 some (.code Z29 [.tmp 8] 55),
 some (.code Z32 [] 148),
 some (.code Z3f [.tmp 4] 18),
 some (.code Z0h [.tmp 2] 26),
 some (.code Z0w [] 20),
 some (.code Z1c [] 53),
 some (.code Z2a [] 60),
 some (.code Z11 [] 67),
 some (.code Z16 [.tmp 8,.tmp 9] 63),
 some (.code Z35 [] 34),
 some (.code Z2y [.tmp 8] 141),
 some (.code Z1p [.tmp 10] 90),
 some (.code Z25 [.tmp 10,.tmp 11] 178),
 some (.code Q9x [.tmp 2] 19),
 some (.code Z09 [.tmp 2] 25),
 some (.code Z28 [.tmp 4,.tmp 5] 17),
 some (.code Z2q [.tmp 4,.tmp 5] 51),
 some (.code Q9y [] 49),
 some (.code Z3g [] 56),
 some (.code Z1e [] 65),
 some (.code Z0t [.tmp 6,.tmp 7] 57),
 some (.code Z2s [] 32),
 some (.code Z1x [.tmp 6] 133),
 some (.code Z04 [.tmp 4] 17),
 some (.code Z18 [.tmp 8] 84),
 some (.code Z14 [.tmp 8,.tmp 9] 168),
 some (.code Z1i [] 53),
 some (.code Z0z [] 60),
 some (.code Z2t [] 67),
 some (.code Z19 [.tmp 8,.tmp 9] 63),
 some (.code Z21 [] 34),
 some (.code Z27 [.tmp 8] 141),
 some (.code Z2w [.tmp 10] 90),
 some (.code Z2u [.tmp 10,.tmp 11] 178),
 some (.code Z07 [.tmp 2] 22),
 some (.code Z2g [] 82),
 some (.code Z20 [.tmp 2] 7),
 some (.code Z3e [.tmp 2] 33),
 some (.code Z31 [.tmp 8] 18),
 some (.code Z1l [.tmp 12] 41),
 some (.code Z3j [] 76),
 some (.code Z2i [.tmp 6] 15),
 some (.code Z1t [.tmp 10] 36),
 some (.code Z1g [] 82),
 some (.code Z30 [.tmp 8] 18),
 some (.code Z2r [.tmp 12] 41),
 some (.code Z34 [.tmp 10,.tmp 11] 32),
 some (.code Z2m [.tmp 8,.tmp 9] 28),
 some (.code Z2e [.tmp 10,.tmp 11] 32)]
def Fo:Tab:=fun f=>(Z4b[f]?).join
theorem Q51:EntsOk Tryz.prog 0 Z4b:=⟨trivial,trivial,Z3p,Z4j,Z41,Z4c,Z3z,Z3y,Z4m,Z3r,Q8j,Q7o,Q6y,Q6q,fun14,Q3z,Q62,Q90,Q7w,Q52,Q8c,Q5h,Q5f,Q7p,Q87,Q4a,Q7b,Q4c,Q5y,Q9a,Q5w,Q7u,Q9o,Q8i,Q93,Q6z,Q9i,Q7m,Q9j,Q81,Q85,Q98,Q7n,Q8f,Q89,Q91,Q88,Q4z,Q5x,Q8n,Q7d,Q8e,Q8a,Q8v,Q8l,Q82,Q7v,Q46,Q5b,Q5i,Q99,Q6n,Q6u,Q7a,Q8s,Q73,Q7e,Q7g,Q5l,Q4m,Q6v,Q86,Q41,Q60,Q9l,Q9q,Q8x,Q4l,Q4b,Q5c,Q5z,Q4g,Q6p,Q6t,Q9g,Q9d,Q5o,Q43,Q4i,Q75,Q7r,Q79,Q7t,Q77,Q8q,Q7z,Q92,Q6m,Q7j,Q7c,Q2g,Q15,FA,Fq,F7,FL,Q2m,Q2b,Q1j,Q1v,Q36,IX,Ij,FY,Q28,Q23,I4,Q3q,O8,O7,I5,Oi,Q2w,Oj,IH,O5,Q2d,Q2p,Q1n,Q2u,Q2s,Q3u,Q35,Q2f,Q3o,Q1l,Q38,IQ,Q3a,Q27,Q18,Iu,Ib,Q1g,Q2n,Ig,Ie,Fe,Is,Q1r,Q26,Q20,Q30,O2,Q3p,Q1z,Q2z,Q3h,Q3b,Q3m,Q1y,Q1s,Q3r,I3,Od,Q3g,Q1i,Ir,Q1a,Q2q,Q1f,Q3k,Q21,IW,Q3e,Q3i,Q29,Q1w,Q2k,Q2c,Q1p,Q25,Q2v,Q31,Oh,Q16,Q1x,Q3f,Q3j,Q2h,Q3l,Q3v,Q3c,Q1t,Q1d,Q39,Q3s,Q1c,Q22,trivial⟩
theorem BX:TabOk Tryz.prog Fo:=Ax Q51
def mMoved:Memo:=⟨[.agg #[.int .i64 4,.slice (some ⟨0,0,none⟩) 5 5]],[⟨[.int .i64 0,.int .i64 1,.bool false,.int .i64 3,.int .i64 8,.bool false,.int .i64 1,.int .i64 2,.bool false,.int .i64 2,.int .i64 4,.bool false,.int .i64 4,.int .i64 15,.bool false],⟨3,87⟩,true⟩],.tuple #[.slice (some ⟨1,0,none⟩) 1 1,.int .i64 0],[⟨[.int .i64 1],⟨1,3⟩,false⟩]⟩
end Go.Proofs.Tryz
