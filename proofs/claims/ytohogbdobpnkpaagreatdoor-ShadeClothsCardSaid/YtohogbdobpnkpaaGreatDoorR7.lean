/- A framework for walks, contracts of functions, and their proofs: part 7. -/
import Derived.Test.YtohogbdobpnkpaaGreatDoorR6
set_option linter.unusedVariables false
namespace Go.Proofs.Tryz
open Go Go.V Go.Proofs
def Z7c:AL ((List (Int×(Int×Int)×Int))×Int):=(.cons (.k (.list (.pair (.i .i64) (.pair (.pair (.i .i64) (.i .i64)) (.i .i64))))) (.one (.k (.i .i64))))
def J47 (d:(List (Int×(Int×Int)×Int))×Int):Prop:=(∀ y∈d.1,lotOk y=true)∧d.1.length≤1000
def Z5t (d:(List (Int×(Int×Int)×Int))×Int):SV:=.val .bo (evenR d.1 d.2)
def Z66 (d:(List (Int×(Int×Int)×Int))×Int):List OB:=[]
def Z3x:CSp:=mkSp Z7c J47 Z5t Z66
def Q8h (l:List (Int×(Int×Int)×Int)) (tl:Int):Prop :=
 ∃ (e2:Unit) (d20:Int),((l=l∧tl=tl∧(0:Int)=d20∧True)∧(True)) ∧
 LoopP (fun (d2:Int) (q2:(Int)→Prop) =>
  ((decide (d2<(lI l)))=true →
   ((∀ y∈l,lotOk y=true)∧0≤d2∧d2<l.length∧0≤d2∧d2<l.length)∧((!(pairB (l.getD d2.toNat lotD) (l.getD d2.toNat lotD) tl))=true →
    (false=(evenR l tl)∧(True))) ∧
   ((!(pairB (l.getD d2.toNat lotD) (l.getD d2.toNat lotD) tl))=false →
    (I64 (d2+(1:Int)))∧(∃ d3:Int,((l=l∧tl=tl∧(d2+(1:Int))=d3∧True)∧(True))∧q2 d3))) ∧
  ((decide (d2<(lI l)))=false →
   (true=(evenR l tl)∧(True)))) d20
def Z7t:Cx:=⟨[],[(44,Q78)],18,[],0,[],[],[],[],false,[],[],[],[]⟩
def J6j (l:List (Int×(Int×Int)×Int)) (tl:Int):List (Nat×LoopAnn):=[(0,⟨Unit,Int,[0,1,5],fun e x=>[.val (.list (.pair (.i .i64) (.pair (.pair (.i .i64) (.i .i64)) (.i .i64)))) l,.val (.i .i64) tl,.val (.i .i64) x],fun e x=>[]⟩)]
set_option maxRecDepth 100000 in
theorem J63 (d:(List (Int×(Int×Int)×Int))×Int):gwp (Z7t) (J6j d.1 d.2) c12 0 (gend [.tmp 4] (Z5t d) (Z66 d)) (gstart 18 (AL.can Z7c d))=Q8h d.1 d.2:=by kernel_rfl
abbrev J6u:Prop:=OkC Tryz.prog 12 Z3x
theorem J7u (h:∀ (l:List (Int×(Int×Int)×Int)) (tl:Int),((∀ y∈l,lotOk y=true)∧l.length≤1000)→Q8h l tl):OkC Tryz.prog 12 Z3x :=
 Q13 fun12 mixed (C:=Z7t) (V:=fun (d:(List (Int×(Int×Int)×Int))×Int)=>Q8h d.1 d.2) ⟨(.cons Z22 .nil),XsOk.nil,ItsOk.nil,YlOk.nil,IysOk.nil,XfOk.nil⟩ (J63) fun d hp=>h d.1 d.2 hp
theorem J7a:J6u:=J7u fun l tl h=>by
 obtain⟨h1,h2⟩:=h;unfold Q8h;(try delta lI gD sT I64);refine⟨(),0,(by and_intros<;>first|rfl|trivial|simp),?_⟩;refine LoopP.count l.length (fun k=>∀ j:Nat,j<k→alP l tl j j=true) (fun j hj=>by omega) ?_;rintro k hk hJ q hq;refine⟨fun c=>?_,fun c=>?_⟩
 ·have c:k<l.length:=by simp at c;omega
  refine⟨⟨h1,by omega,by omega,by omega,by omega⟩,fun c2=>?_,fun c2=>?_⟩
  ·have c2:alP l tl k k=false:=by unfold alP;simpa using c2
   have:evenR l tl=false:=by
    cases he:evenR l tl with
    |false=>rfl
    |true=>rw[List.all_eq_true.1 he k (List.mem_range.2 c)] at c2;cases c2
   rw[this];exact(by and_intros<;>first|rfl|trivial|simp)
  ·have c2:alP l tl k k=true:=by unfold alP;simpa using c2
   refine⟨by simp only[Q0b];omega,(k:Int)+1,(by and_intros<;>first|rfl|trivial|simp),hq c fun j hj=>?_⟩;by_cases e:j=k
   ·subst e;exact c2
   ·exact hJ j (by omega)
 ·have:evenR l tl=true:=List.all_eq_true.2 fun j hj=>hJ j (by have:=List.mem_range.1 hj;simp at c;omega);rw[this];exact(by and_intros<;>first|rfl|trivial|simp)
def Z4q:AL ((List (Int×(Int×Int)×Int))×List Int×Int):=(.cons (.k (.list (.pair (.i .i64) (.pair (.pair (.i .i64) (.i .i64)) (.i .i64))))) (.cons (.k (.list (.i .i64))) (.one (.k (.i .i64)))))
def Z9y (d:(List (Int×(Int×Int)×Int))×List Int×Int):Prop:=(∀ y∈d.1,lotOk y=true)∧d.2.1.length≤1000∧∀ i∈d.2.1,0≤i∧i<d.1.length
def Z2t (d:(List (Int×(Int×Int)×Int))×List Int×Int):SV:=.val .bo (unlR d.1 d.2.2 d.2.1)
def Z2u (d:(List (Int×(Int×Int)×Int))×List Int×Int):List OB:=[]
def Q72:CSp:=mkSp Z4q Z9y Z2t Z2u
def Q5y (l:List (Int×(Int×Int)×Int)) (sm:List Int) (tl:Int):Prop :=
 ∃ (e2:Unit) (d20:Int),((l=l∧sm=sm∧tl=tl∧(0:Int)=d20∧True)∧(True)) ∧
 LoopP (fun (d2:Int) (q2:(Int)→Prop) =>
  ((decide (d2<(lI sm)))=true →
   ∃ (e4:Int) (d40:Int),((l=l∧sm=sm∧tl=tl∧d2=e4∧(0:Int)=d40∧True)∧(True)) ∧
   LoopP (fun (d4:Int) (q4:(Int)→Prop) =>
    ((decide (d4<e4))=true →
     (0≤e4)∧(e4<(List.length sm))∧(0≤d4)∧(d4<(List.length sm))∧((∀ y∈l,lotOk y=true)∧0≤(gD sm e4 0)∧(gD sm e4 0)<l.length∧0≤(gD sm d4 0)∧(gD sm d4 0)<l.length)∧((pairB (l.getD (gD sm e4 0).toNat lotD) (l.getD (gD sm d4 0).toNat lotD) tl)=true →
      (false=(unlR l tl sm)∧(True))) ∧
     ((pairB (l.getD (gD sm e4 0).toNat lotD) (l.getD (gD sm d4 0).toNat lotD) tl)=false →
      (I64 (d4+(1:Int)))∧(∃ d5:Int,((l=l∧sm=sm∧tl=tl∧e4=e4∧(d4+(1:Int))=d5∧True)∧(True))∧q4 d5))) ∧
    ((decide (d4<e4))=false →
     (I64 (e4+(1:Int)))∧(∃ d6:Int,((l=l∧sm=sm∧tl=tl∧(e4+(1:Int))=d6∧True)∧(True))∧q2 d6))) d40) ∧
  ((decide (d2<(lI sm)))=false →
   (true=(unlR l tl sm)∧(True)))) d20
def Z48:Cx:=⟨[],[(44,Q78)],31,[],0,[],[],[],[],false,[],[],[],[]⟩
def J13 (l:List (Int×(Int×Int)×Int)) (sm:List Int) (tl:Int):List (Nat×LoopAnn):=[(0,⟨Unit,Int,[0,1,2,7],fun e x=>[.val (.list (.pair (.i .i64) (.pair (.pair (.i .i64) (.i .i64)) (.i .i64)))) l,.val (.list (.i .i64)) sm,.val (.i .i64) tl,.val (.i .i64) x],fun e x=>[]⟩),
 (2,⟨Int,Int,[0,1,2,7,8],fun e x=>[.val (.list (.pair (.i .i64) (.pair (.pair (.i .i64) (.i .i64)) (.i .i64)))) l,.val (.list (.i .i64)) sm,.val (.i .i64) tl,.val (.i .i64) e,.val (.i .i64) x],fun e x=>[]⟩)]
set_option maxRecDepth 100000 in
theorem J1y (d:(List (Int×(Int×Int)×Int))×List Int×Int):gwp (Z48) (J13 d.1 d.2.1 d.2.2) c22 0 (gend [.tmp 6] (Z2t d) (Z2u d)) (gstart 31 (AL.can Z4q d))=Q5y d.1 d.2.1 d.2.2:=by kernel_rfl
abbrev J2c:Prop:=OkC Tryz.prog 22 Q72
theorem J0u (h:∀ (l:List (Int×(Int×Int)×Int)) (sm:List Int) (tl:Int),((∀ y∈l,lotOk y=true)∧sm.length≤1000∧∀ i∈sm,0≤i∧i<l.length)→Q5y l sm tl):OkC Tryz.prog 22 Q72 :=
 Q13 fun22 mixed (C:=Z48) (V:=fun (d:(List (Int×(Int×Int)×Int))×List Int×Int)=>Q5y d.1 d.2.1 d.2.2) ⟨(.cons Z22 .nil),XsOk.nil,ItsOk.nil,YlOk.nil,IysOk.nil,XfOk.nil⟩ (J1y) fun d hp=>h d.1 d.2.1 d.2.2 hp
theorem Z45:J2c:=J0u fun l sm tl h=>by
 obtain⟨h1,h2,h3⟩:=h;unfold Q5y;(try delta lI gD sT I64);refine⟨(),0,(by and_intros<;>first|rfl|trivial|simp),?_⟩;refine LoopP.count sm.length (fun n=>∀ i,i<n→∀ k,k<i→alP l tl (sm.getD i 0) (sm.getD k 0)=false) (fun j hj=>by omega) ?_;rintro i hi hJ q hq;refine⟨fun c=>?_,fun c=>?_⟩
 ·have c:i<sm.length:=by simp at c;omega
  refine⟨(i:Int),0,(by and_intros<;>first|rfl|trivial|simp),?_⟩;refine LoopP.count i (fun n=>∀ k,k<n→alP l tl (sm.getD i 0) (sm.getD k 0)=false) (fun j hj=>by omega) ?_;rintro k hk hI q2 hq2;simp only[Int.toNat_natCast];refine⟨fun c2=>?_,fun c2=>?_⟩
  ·have c2:k<i:=by simp at c2;omega
   have hxi:=h3 _ (Z8d c);have hxk:=h3 _ (Z8d (show k<sm.length by omega));refine⟨by omega,by omega,by omega,by omega,⟨h1,hxi.1,hxi.2,hxk.1,hxk.2⟩,fun c3=>?_,fun c3=>?_⟩
   ·have c3:alP l tl (sm.getD i 0) (sm.getD k 0)=true:=c3;have:unlR l tl sm=false:=by
     cases he:unlR l tl sm with
     |false=>rfl
     |true=>rw[X1a.1 he i c k c2] at c3;cases c3
    rw[this];exact(by and_intros<;>first|rfl|trivial|simp)
   ·have c3:alP l tl (sm.getD i 0) (sm.getD k 0)=false:=c3;refine⟨by simp only[Q0b];omega,(k:Int)+1,(by and_intros<;>first|rfl|trivial|simp),hq2 c2 fun j hj=>?_⟩;by_cases e:j=k
    ·subst e;exact c3
    ·exact hI j (by omega)
  ·have c2:k=i:=by simp at c2;omega
   subst c2;refine⟨by simp only[Q0b];omega,(k:Int)+1,(by and_intros<;>first|rfl|trivial|simp),hq c fun j hj=>?_⟩;by_cases e:j=k
   ·subst e;exact hI
   ·exact hJ j (by omega)
 ·have:unlR l tl sm=true:=X1a.2 fun j hj=>hJ j (by simp at c;omega);rw[this];exact(by and_intros<;>first|rfl|trivial|simp)
def Z5m:AL ((List (Int×(Int×Int)×Int))×Int):=(.cons (.k (.list (.pair (.i .i64) (.pair (.pair (.i .i64) (.i .i64)) (.i .i64))))) (.one (.k (.i .i64))))
def J3m (d:(List (Int×(Int×Int)×Int))×Int):Prop:=(∀ y∈d.1,lotOk y=true)∧d.1.length≤12
def Z4a (d:(List (Int×(Int×Int)×Int))×Int):SV:=.val (.i .i64) (apR d.1 d.2)
def Z3j (d:(List (Int×(Int×Int)×Int))×Int):List OB:=[]
def Z27:CSp:=mkSp Z5m J3m Z4a Z3j
def Q75 (l:List (Int×(Int×Int)×Int)) (tl:Int):Prop :=
 ∃ (e2:Unit) (d20:Int×Int),((l=l∧tl=tl∧(0:Int)=d20.1∧(0:Int)=d20.2∧True)∧(True)) ∧
 LoopP (fun (d2:Int×Int) (q2:(Int×Int)→Prop) =>
  (InK .u64 (lI l))∧(0≤(lI l))∧(I64 (shlI .i64 (1:Int) (lI l)))∧((decide (d2.2<(shlI .i64 (1:Int) (lI l))))=true →
   (0≤(lI l)∧(lI l)≤12∧0≤d2.2∧d2.2<2 ^ (lI l).toNat)∧((∀ y∈l,lotOk y=true)∧(chosenK d2.2.toNat (lI l).toNat).length≤1000∧∀ i∈(chosenK d2.2.toNat (lI l).toNat),0≤i∧i<l.length)∧((unlR l tl (chosenK d2.2.toNat (lI l).toNat))=true →
    (I64 (d2.2+(1:Int)))∧(∃ d3:Int×Int,((l=l∧tl=tl∧(gmax d2.1 (lI (chosenK d2.2.toNat (lI l).toNat)))=d3.1∧(d2.2+(1:Int))=d3.2∧True)∧(True))∧q2 d3)) ∧
   ((unlR l tl (chosenK d2.2.toNat (lI l).toNat))=false →
    (I64 (d2.2+(1:Int)))∧(∃ d4:Int×Int,((l=l∧tl=tl∧d2.1=d4.1∧(d2.2+(1:Int))=d4.2∧True)∧(True))∧q2 d4))) ∧
  ((decide (d2.2<(shlI .i64 (1:Int) (lI l))))=false →
   (d2.1=(apR l tl)∧(True)))) d20
def Z6b:Cx:=⟨[],[(50,Z0q),(22,Q72)],29,[],0,[],[],[],[],false,[],[],[],[]⟩
def J3v (l:List (Int×(Int×Int)×Int)) (tl:Int):List (Nat×LoopAnn):=[(0,⟨Unit,Int×Int,[0,1,5,6],fun e x=>[.val (.list (.pair (.i .i64) (.pair (.pair (.i .i64) (.i .i64)) (.i .i64)))) l,.val (.i .i64) tl,.val (.i .i64) x.1,.val (.i .i64) x.2],fun e x=>[]⟩)]
set_option maxRecDepth 100000 in
theorem J3z (d:(List (Int×(Int×Int)×Int))×Int):gwp (Z6b) (J3v d.1 d.2) c19 0 (gend [.tmp 4] (Z4a d) (Z3j d)) (gstart 29 (AL.can Z5m d))=Q75 d.1 d.2:=by kernel_rfl
abbrev J42:Prop:=OkC Tryz.prog 19 Z27
theorem J4g (h:∀ (l:List (Int×(Int×Int)×Int)) (tl:Int),((∀ y∈l,lotOk y=true)∧l.length≤12)→Q75 l tl):OkC Tryz.prog 19 Z27 :=
 Q13 fun19 mixed (C:=Z6b) (V:=fun (d:(List (Int×(Int×Int)×Int))×Int)=>Q75 d.1 d.2) ⟨(.cons J1j (.cons Z45 .nil)),XsOk.nil,ItsOk.nil,YlOk.nil,IysOk.nil,XfOk.nil⟩ (J3z) fun d hp=>h d.1 d.2 hp
theorem J4s:J42:=J4g fun l tl h=>by
 obtain⟨h1,h2⟩:=h;unfold Q75;(try delta lI gD sT I64);have hp2:=Z52 h2;have hp0:=Nat.two_pow_pos l.length;have hpi:(2:Int) ^ l.length=((2 ^ l.length:Nat):Int):=by simp
 simp only[X8l (show l.length≤62 by omega),Int.toNat_natCast,hpi];refine⟨(),(0,0),(by and_intros<;>first|rfl|trivial|simp),?_⟩;refine LoopP.count2 (2 ^ l.length) (fun k a=>a=apK l tl k∧0≤a∧a≤12) ⟨rfl,by omega,by omega⟩ ?_;rintro k a hk ⟨hJ,hJ1,hJ2⟩ q hq;dsimp only;simp only[Int.toNat_natCast];refine⟨by simp only[Z26];omega,by omega,by simp only[Q0b];omega,fun c=>?_,fun c=>?_⟩
 ·have c:k<2 ^ l.length:=by have:=of_decide_eq_true c;omega
  have hcl:=J38 k l.length;have hlt:=J77 c (show l.length≤64 by omega);rw[J1d c (show l.length≤64 by omega)] at hlt;refine⟨⟨by omega,by omega,by omega,by omega⟩,⟨h1,by omega,hlt⟩,fun c2=>?_,fun c2=>?_⟩
  ·refine⟨by simp only[Q0b];omega,(gmax a (chosenK k l.length).length,(k:Int)+1),(by and_intros<;>first|rfl|trivial|simp),hq _ c ⟨by rw[J6a,if_pos c2,hJ],?_,?_⟩⟩<;>(rw[Z23];omega)
  ·refine⟨by simp only[Q0b];omega,(a,(k:Int)+1),(by and_intros<;>first|rfl|trivial|simp),hq _ c ⟨by rw[J6a,if_neg (by rw[c2];decide),hJ],hJ1,hJ2⟩⟩
 ·have c:k=2 ^ l.length:=by have:=of_decide_eq_false c;omega
  subst c;rw[hJ];exact(by and_intros<;>first|rfl|trivial|simp)
def Q98:AL ((List (Int×(Int×Int)×Int))×Int×Int×List (List Int)):=(.cons (.k (.list (.pair (.i .i64) (.pair (.pair (.i .i64) (.i .i64)) (.i .i64))))) (.cons (.k (.i .i64)) (.cons (.k (.i .i64)) (.one (.k (.list (.list (.i .i64))))))))
def Z2x (d:(List (Int×(Int×Int)×Int))×Int×Int×List (List Int)):Prop:=(∀ y∈d.1,lotOk y=true)∧d.1.length≤12∧0≤d.2.2.1∧d.2.2.1≤d.1.length∧d.2.2.2.length≤d.2.2.1∧∀ c∈d.2.2.2,c.length≤d.2.2.1∧∀ i∈c,0≤i∧i<d.2.2.1
def Q7t (d:(List (Int×(Int×Int)×Int))×Int×Int×List (List Int)):SV:=.val (.i .i64) (cloR d.1 d.2.1 (d.1.drop d.2.2.1.toNat).length d.2.2.1 d.2.2.2)
def Q80 (d:(List (Int×(Int×Int)×Int))×Int×Int×List (List Int)):List OB:=[]
def Z0u:CSp:=mkSp Q98 Z2x Q7t Q80
def Q5p (NREC:Nat) (l:List (Int×(Int×Int)×Int)) (tl:Int) (a:Int) (g:List (List Int)):Prop :=
 ((a==(lI l))=true →
  ((lI g)=(cloR l tl (l.drop a.toNat).length a g)∧(True))) ∧
 ((a==(lI l))=false →
  (I64 ((lI l)+(1:Int)))∧∃ (e2:Unit) (d20:Int×Int),((l=l∧tl=tl∧a=a∧g=g∧((lI l)+(1:Int))=d20.1∧(0:Int)=d20.2∧True)∧(True)) ∧
  LoopP (fun (d2:Int×Int) (q2:(Int×Int)→Prop) =>
   ((decide (d2.2≤(lI g)))=true →
    (((List.length ([]:List (List Int)))+(List.length g))*24≤70368744177664)∧((d2.2==(lI g))=true →
     (((List.length (([]:List (List Int))++g))+(List.length [([]:List Int)]))*24≤70368744177664)∧(0≤d2.2)∧(d2.2<(List.length ((([]:List (List Int))++g)++[([]:List Int)])))∧(((List.length ([]:List Int))+(List.length (gD ((([]:List (List Int))++g)++[([]:List Int)]) d2.2 [])))*8≤70368744177664)∧(((List.length (([]:List Int)++(gD ((([]:List (List Int))++g)++[([]:List Int)]) d2.2 [])))+(List.length [a]))*8≤70368744177664)∧(0≤d2.2)∧(d2.2<(List.length ((([]:List (List Int))++g)++[([]:List Int)])))∧(0≤d2.2)∧(d2.2<(List.length (sT ((([]:List (List Int))++g)++[([]:List Int)]) d2.2 ((([]:List Int)++(gD ((([]:List (List Int))++g)++[([]:List Int)]) d2.2 []))++[a]))))∧((∀ y∈l,lotOk y=true)∧(gD (sT ((([]:List (List Int))++g)++[([]:List Int)]) d2.2 ((([]:List Int)++(gD ((([]:List (List Int))++g)++[([]:List Int)]) d2.2 []))++[a])) d2.2 []).length≤1000∧∀ i∈(gD (sT ((([]:List (List Int))++g)++[([]:List Int)]) d2.2 ((([]:List Int)++(gD ((([]:List (List Int))++g)++[([]:List Int)]) d2.2 []))++[a])) d2.2 []),0≤i∧i<l.length)∧((alikeR (pickL l (gD (sT ((([]:List (List Int))++g)++[([]:List Int)]) d2.2 ((([]:List Int)++(gD ((([]:List (List Int))++g)++[([]:List Int)]) d2.2 []))++[a])) d2.2 [])) tl)=true →
      (I64 (a+(1:Int)))∧(((∀ y∈l,lotOk y=true)∧l.length≤12∧0≤(a+(1:Int))∧(a+(1:Int))≤l.length∧(sT ((([]:List (List Int))++g)++[([]:List Int)]) d2.2 ((([]:List Int)++(gD ((([]:List (List Int))++g)++[([]:List Int)]) d2.2 []))++[a])).length≤(a+(1:Int))∧∀ c∈(sT ((([]:List (List Int))++g)++[([]:List Int)]) d2.2 ((([]:List Int)++(gD ((([]:List (List Int))++g)++[([]:List Int)]) d2.2 []))++[a])),c.length≤(a+(1:Int))∧∀ i∈c,0≤i∧i<(a+(1:Int)))∧(l.length-(a+(1:Int)).toNat)<NREC)∧(I64 (d2.2+(1:Int)))∧(∃ d3:Int×Int,((l=l∧tl=tl∧a=a∧g=g∧(gmin d2.1 (cloR l tl (l.drop (a+(1:Int)).toNat).length (a+(1:Int)) (sT ((([]:List (List Int))++g)++[([]:List Int)]) d2.2 ((([]:List Int)++(gD ((([]:List (List Int))++g)++[([]:List Int)]) d2.2 []))++[a]))))=d3.1∧(d2.2+(1:Int))=d3.2∧True)∧(True))∧q2 d3)) ∧
     ((alikeR (pickL l (gD (sT ((([]:List (List Int))++g)++[([]:List Int)]) d2.2 ((([]:List Int)++(gD ((([]:List (List Int))++g)++[([]:List Int)]) d2.2 []))++[a])) d2.2 [])) tl)=false →
      (I64 (d2.2+(1:Int)))∧(∃ d4:Int×Int,((l=l∧tl=tl∧a=a∧g=g∧d2.1=d4.1∧(d2.2+(1:Int))=d4.2∧True)∧(True))∧q2 d4))) ∧
    ((d2.2==(lI g))=false →
     (0≤d2.2)∧(d2.2<(List.length (([]:List (List Int))++g)))∧(((List.length ([]:List Int))+(List.length (gD (([]:List (List Int))++g) d2.2 [])))*8≤70368744177664)∧(((List.length (([]:List Int)++(gD (([]:List (List Int))++g) d2.2 [])))+(List.length [a]))*8≤70368744177664)∧(0≤d2.2)∧(d2.2<(List.length (([]:List (List Int))++g)))∧(0≤d2.2)∧(d2.2<(List.length (sT (([]:List (List Int))++g) d2.2 ((([]:List Int)++(gD (([]:List (List Int))++g) d2.2 []))++[a]))))∧((∀ y∈l,lotOk y=true)∧(gD (sT (([]:List (List Int))++g) d2.2 ((([]:List Int)++(gD (([]:List (List Int))++g) d2.2 []))++[a])) d2.2 []).length≤1000∧∀ i∈(gD (sT (([]:List (List Int))++g) d2.2 ((([]:List Int)++(gD (([]:List (List Int))++g) d2.2 []))++[a])) d2.2 []),0≤i∧i<l.length)∧((alikeR (pickL l (gD (sT (([]:List (List Int))++g) d2.2 ((([]:List Int)++(gD (([]:List (List Int))++g) d2.2 []))++[a])) d2.2 [])) tl)=true →
      (I64 (a+(1:Int)))∧(((∀ y∈l,lotOk y=true)∧l.length≤12∧0≤(a+(1:Int))∧(a+(1:Int))≤l.length∧(sT (([]:List (List Int))++g) d2.2 ((([]:List Int)++(gD (([]:List (List Int))++g) d2.2 []))++[a])).length≤(a+(1:Int))∧∀ c∈(sT (([]:List (List Int))++g) d2.2 ((([]:List Int)++(gD (([]:List (List Int))++g) d2.2 []))++[a])),c.length≤(a+(1:Int))∧∀ i∈c,0≤i∧i<(a+(1:Int)))∧(l.length-(a+(1:Int)).toNat)<NREC)∧(I64 (d2.2+(1:Int)))∧(∃ d5:Int×Int,((l=l∧tl=tl∧a=a∧g=g∧(gmin d2.1 (cloR l tl (l.drop (a+(1:Int)).toNat).length (a+(1:Int)) (sT (([]:List (List Int))++g) d2.2 ((([]:List Int)++(gD (([]:List (List Int))++g) d2.2 []))++[a]))))=d5.1∧(d2.2+(1:Int))=d5.2∧True)∧(True))∧q2 d5)) ∧
     ((alikeR (pickL l (gD (sT (([]:List (List Int))++g) d2.2 ((([]:List Int)++(gD (([]:List (List Int))++g) d2.2 []))++[a])) d2.2 [])) tl)=false →
      (I64 (d2.2+(1:Int)))∧(∃ d6:Int×Int,((l=l∧tl=tl∧a=a∧g=g∧d2.1=d6.1∧(d2.2+(1:Int))=d6.2∧True)∧(True))∧q2 d6)))) ∧
   ((decide (d2.2≤(lI g)))=false →
    (d2.1=(cloR l tl (l.drop a.toNat).length a g)∧(True)))) d20)
def cx_ref09_Cloths:Cx:=⟨[(3,(.i .i64)),(31,(.list (.i .i64)))],[(21,Q8r)],65,[27,29,35,36],0,[],[],[(31,3)],[],false,[],[],[],[]⟩
def J16 (l:List (Int×(Int×Int)×Int)) (tl:Int) (a:Int) (g:List (List Int)):List (Nat×LoopAnn):=[(0,⟨Unit,Int×Int,[0,1,2,3,9,10],fun e x=>[.val (.list (.pair (.i .i64) (.pair (.pair (.i .i64) (.i .i64)) (.i .i64)))) l,.val (.i .i64) tl,.val (.i .i64) a,.val (.list (.list (.i .i64))) g,.val (.i .i64) x.1,.val (.i .i64) x.2],fun e x=>[]⟩)]
def J1b (d:(List (Int×(Int×Int)×Int))×Int×Int×List (List Int)):Nat:=d.1.length-d.2.2.1.toNat
set_option maxRecDepth 100000 in
theorem J32 (NREC:Nat) (d:(List (Int×(Int×Int)×Int))×Int×Int×List (List Int)):gwp ({cx_ref09_Cloths with cs:=(18,mkSp Q98 (fun d=>Z2x d∧J1b d<NREC) Q7t Q80)::cx_ref09_Cloths.cs}) (J16 d.1 d.2.1 d.2.2.1 d.2.2.2) c18 0 (gend [.tmp 8] (Q7t d) (Q80 d)) (gstart 65 (AL.can Q98 d))=Q5p NREC d.1 d.2.1 d.2.2.1 d.2.2.2:=by kernel_rfl
abbrev J2i:Prop:=OkC Tryz.prog 18 Z0u
theorem J1z (h:∀ NREC (l:List (Int×(Int×Int)×Int)) (tl:Int) (a:Int) (g:List (List Int)),((∀ y∈l,lotOk y=true)∧l.length≤12∧0≤a∧a≤l.length∧g.length≤a∧∀ c∈g,c.length≤a∧∀ i∈c,0≤i∧i<a)→(l.length-a.toNat)=NREC→Q5p NREC l tl a g):OkC Tryz.prog 18 Z0u :=
 X4x fun18 mixed (C:=cx_ref09_Cloths) (V:=fun n (d:(List (Int×(Int×Int)×Int))×Int×Int×List (List Int))=>Q5p n d.1 d.2.1 d.2.2.1 d.2.2.2) ⟨(.cons Z5l .nil),XsOk.nil,ItsOk.nil,YlOk.nil,IysOk.nil,XfOk.nil⟩ (J32) fun n d hp hn=>h n d.1 d.2.1 d.2.2.1 d.2.2.2 hp hn
theorem J3c:J2i:=J1z fun NREC l tl a g h hN=>by
 obtain⟨h1,h2,h3,h4,h5,h6⟩:=h;obtain⟨a,rfl⟩:∃ n:Nat,a=n:=⟨a.toNat,by omega⟩;rw[Int.toNat_natCast] at hN;have h6:∀ c∈g,c.length≤a∧∀ i∈c,0≤i∧i<(a:Int):=fun c hc=>⟨by have:=(h6 c hc).1;omega,(h6 c hc).2⟩;have hg:∀ j,(g.getD j []).length≤a:=fun j=>by
  rcases J6r (g:=g) j with h|h
  ·rw[h];exact Nat.zero_le _
  ·exact(h6 _ h).1
 unfold Q5p;(try delta lI gD sT I64);have ha1:((a:Int)+1).toNat=a+1:=by omega
 simp only[Int.toNat_natCast,List.nil_append,ha1];refine⟨fun c=>?_,fun c=>?_⟩
 ·have c:a=l.length:=by simp at c;omega
  rw[List.drop_eq_nil_of_le (by omega)];exact(by and_intros<;>first|rfl|trivial|simp)
 ·have c:a<l.length:=by simp at c;omega
  have hfu:(l.drop a).length=(l.drop (a+1)).length+1:=by simp;omega
  have hK:cloR l tl (l.drop a).length a g=cloK l tl (l.drop (a+1)).length a g (g.length+1):=by rw[hfu];rfl
  refine⟨by simp only[Q0b];omega,(),((l.length:Int)+1,0),(by and_intros<;>first|rfl|trivial|simp),?_⟩;refine LoopP.count2 (g.length+1) (fun k b=>b=cloK l tl (l.drop (a+1)).length a g k) rfl ?_;rintro k b hk hJ q hq;dsimp only;simp only[Int.toNat_natCast];refine⟨fun c1=>?_,fun c1=>?_⟩
  ·have c1:k≤g.length:=by have:=of_decide_eq_true c1;omega
   have hgk:=hg k;have hmo:=X9a c1 h6;have hml:=X70 (g:=g) (a:=(a:Int)) (i:=k);have hmg:=Z0m (a:=(a:Int)) c1;have hmk:((putC g a k).getD k []).length≤1000:=by rw[hmg,List.length_append,List.length_singleton];omega
   have hmi:∀ i∈(putC g a k).getD k [],0≤i∧i<(l.length:Int):=fun i hi=>by
    rcases J6r (g:=putC g a k) k with h|h
    ·rw[h] at hi;cases hi
    ·have:=(hmo _ h).2 i hi;omega
   have hstep:∀ v:Int,v=cloR l tl (l.drop (a+1)).length ((a:Int)+1) (putC g a k)→alikeR (pickL l ((putC g a k).getD k [])) tl=true→gmin b v=cloK l tl (l.drop (a+1)).length a g (k+1):=fun v hv ht=>by rw[Z1m,if_pos ht,hJ,hv]
   have hpre:(∀ y∈l,lotOk y=true)∧l.length≤12∧0≤(a:Int)+1∧(a:Int)+1≤l.length∧((putC g a k).length:Int)≤(a:Int)+1∧∀ c∈putC g a k,(c.length:Int)≤(a:Int)+1∧∀ i∈c,0≤i∧i<(a:Int)+1:=⟨h1,h2,by omega,by omega,by omega,fun c hc=>⟨by have:=(hmo c hc).1;omega,(hmo c hc).2⟩⟩;have hrec:l.length-(a+1)<NREC:=by omega
   refine⟨by simp;omega,fun c2=>?_,fun c2=>?_⟩
   ·have c2:k=g.length:=by simp at c2;omega
    have hp:(g++[[]]).set k ((g++[[]]).getD k []++[(a:Int)])=putC g a k:=by unfold putC;rw[if_pos c2]
    have hz:(g++[[]]).getD k []=g.getD k []:=by subst c2;rw[Q02 (by simp),List.getD_eq_getElem?_getD,List.getElem?_eq_none (Nat.le_refl _)];simp
    simp only[hp];rw[hz];refine⟨by simp;omega,by omega,by simp;omega,by simp only[List.length_nil];omega,by simp only[List.length_nil,List.length_cons];omega,by omega,by simp;omega,by omega,by rw[Q43,if_pos c2];omega,⟨h1,hmk,hmi⟩,fun c3=>?_,fun c3=>?_⟩
    ·exact⟨by simp only[Q0b];omega,⟨hpre,hrec⟩,by simp only[Q0b];omega,(gmin b (cloR l tl (l.drop (a+1)).length ((a:Int)+1) (putC g a k)),(k:Int)+1),(by and_intros<;>first|rfl|trivial|simp),hq _ (by omega) (hstep _ rfl c3)⟩
    ·exact⟨by simp only[Q0b];omega,(b,(k:Int)+1),(by and_intros<;>first|rfl|trivial|simp),hq _ (by omega) (by rw[Z1m,if_neg (by rw[c3];decide)];exact hJ)⟩
   ·have c2:¬ k=g.length:=by simp at c2;omega
    have hp:g.set k (g.getD k []++[(a:Int)])=putC g a k:=by unfold putC;rw[if_neg c2]
    simp only[hp];refine⟨by omega,by omega,by simp only[List.length_nil];omega,by simp only[List.length_nil,List.length_cons];omega,by omega,by omega,by omega,by rw[Q43,if_neg c2];omega,⟨h1,hmk,hmi⟩,fun c3=>?_,fun c3=>?_⟩
    ·exact⟨by simp only[Q0b];omega,⟨hpre,hrec⟩,by simp only[Q0b];omega,(gmin b (cloR l tl (l.drop (a+1)).length ((a:Int)+1) (putC g a k)),(k:Int)+1),(by and_intros<;>first|rfl|trivial|simp),hq _ (by omega) (hstep _ rfl c3)⟩
    ·exact⟨by simp only[Q0b];omega,(b,(k:Int)+1),(by and_intros<;>first|rfl|trivial|simp),hq _ (by omega) (by rw[Z1m,if_neg (by rw[c3];decide)];exact hJ)⟩
  ·have c1:k=g.length+1:=by have:=of_decide_eq_false c1;omega
   subst c1;rw[hJ,←hK];exact(by and_intros<;>first|rfl|trivial|simp)
end Go.Proofs.Tryz
set_option linter.unusedVariables false
namespace Go.Proofs.Tryz
open Go Go.V Go.Proofs
def Q84:AL ((List (Int×(Int×Int)×Int))×Int):=(.cons (.k (.list (.pair (.i .i64) (.pair (.pair (.i .i64) (.i .i64)) (.i .i64))))) (.one (.k (.i .i64))))
def Z49 (d:(List (Int×(Int×Int)×Int))×Int):Prop:=d.1.length≤9223372036854775807
def Q7r (d:(List (Int×(Int×Int)×Int))×Int):SV:=.val .bo true
def Q7k (d:(List (Int×(Int×Int)×Int))×Int):List OB:=[]
def Q9a:CSp:=mkSp Q84 Z49 Q7r Q7k
def Q2s (l:List (Int×(Int×Int)×Int)) (tl:Int):Prop :=
 (l.length≤9223372036854775807)∧(((openErr l tl)==(0:Int))=true→(∀ y∈l,lotOk y=true)∧l.length≤1000)∧((((openErr l tl)==(0:Int))&&(!(evenR l tl)))=true →
  (((decide ((lI l) > (20:Int)))||(((9:Int)==(0:Int))&&(decide ((lI l) > (8:Int)))))=true →
   (True)∧(true=true∧(True))) ∧
  (((decide ((lI l) > (20:Int)))||(((9:Int)==(0:Int))&&(decide ((lI l) > (8:Int)))))=false →
   (l.length≤1000)∧(l.length≤1000)∧(l.length≤1000)∧(l.length≤1000)∧((!(l==l))=true →
    (false=true∧(True))) ∧
   ((!(l==l))=false →
    (((9:Int) != (0:Int))=true →
     ((((partErr l tl)==(9:Int))&&((partErr l tl)==(9:Int)))=true→InK .i64 ((lI (parCW l tl))+(lI (parHW l tl))))∧(((((partErr l tl)==(9:Int))&&((partErr l tl)==(9:Int)))&&(((lI (parCW l tl))+(lI (parHW l tl)))==(0:Int)))=true→True)∧((((((partErr l tl)==(9:Int))&&((partErr l tl)==(9:Int)))&&(((lI (parCW l tl))+(lI (parHW l tl)))==(0:Int)))&&true)=true∧(True))) ∧
    (((9:Int) != (0:Int))=false →
     ((((partErr l tl) != (0:Int))||((partErr l tl) != (0:Int)))=false→(∀ y∈l,lotOk y=true)∧l.length≤12∧0≤(0:Int)∧(0:Int)≤l.length∧([]:List (List Int)).length≤(0:Int)∧∀ c∈([]:List (List Int)),c.length≤(0:Int)∧∀ i∈c,0≤i∧i<(0:Int))∧(((((partErr l tl) != (0:Int))||((partErr l tl) != (0:Int)))||((lI (parCW l tl)) != (cloR l tl (l.drop (0:Int).toNat).length (0:Int) ([]:List (List Int)))))=false→(∀ y∈l,lotOk y=true)∧l.length≤12)∧((((((partErr l tl) != (0:Int))||((partErr l tl) != (0:Int)))||((lI (parCW l tl)) != (cloR l tl (l.drop (0:Int).toNat).length (0:Int) ([]:List (List Int)))))||((lI (parHW l tl)) != (apR l tl)))=true →
      (false=true∧(True))) ∧
     ((((((partErr l tl) != (0:Int))||((partErr l tl) != (0:Int)))||((lI (parCW l tl)) != (cloR l tl (l.drop (0:Int).toNat).length (0:Int) ([]:List (List Int)))))||((lI (parHW l tl)) != (apR l tl)))=false →
      ∃ (e3:Unit) (d30:(List (Int×Bool))×Int×Int),((l=l∧tl=tl∧True∧True∧True∧(0:Int)=d30.2.1∧(0:Int)=d30.2.2∧True)∧(((parCW l tl)=(parCW l tl)∧(parCW l tl).isEmpty=(List.isEmpty (parCW l tl)))∧((parHW l tl)=(parHW l tl)∧(parHW l tl).isEmpty=(List.isEmpty (parHW l tl)))∧(([]:List (Int×Bool))=d30.1)∧True)) ∧
      LoopP (fun (d3:(List (Int×Bool))×Int×Int) (q3:((List (Int×Bool))×Int×Int)→Prop) =>
       ((decide (d3.2.2<(lI (parCW l tl))))=true →
        ∃ (e6:Int) (d60:(List (Int×Bool))×Int×Int),((l=l∧tl=tl∧True∧True∧True∧d3.2.1=d60.2.1∧d3.2.2=e6∧(0:Int)=d60.2.2∧True)∧(((parCW l tl)=(parCW l tl)∧(List.isEmpty (parCW l tl))=(List.isEmpty (parCW l tl)))∧((parHW l tl)=(parHW l tl)∧(List.isEmpty (parHW l tl))=(List.isEmpty (parHW l tl)))∧(d3.1=d60.1)∧True)) ∧
        LoopP (fun (d6:(List (Int×Bool))×Int×Int) (q6:((List (Int×Bool))×Int×Int)→Prop) =>
         (0≤e6)∧(e6<(List.length (parCW l tl)))∧((decide (d6.2.2<(lI (gD (parCW l tl) e6 []))))=true →
          (0≤e6)∧(e6<(List.length (parCW l tl)))∧(0≤d6.2.2)∧(d6.2.2<(List.length (gD (parCW l tl) e6 [])))∧(I64 ((lI l)-(1:Int)))∧(True)∧(((!(inI (gD (gD (parCW l tl) e6 []) d6.2.2 0) (0:Int) ((lI l)-(1:Int))))||(gq.aget (.i .i64) d6.1 (gD (gD (parCW l tl) e6 []) d6.2.2 0) false))=false→(decide (d6.2.2 > (0:Int)))=true→0≤e6)∧(((!(inI (gD (gD (parCW l tl) e6 []) d6.2.2 0) (0:Int) ((lI l)-(1:Int))))||(gq.aget (.i .i64) d6.1 (gD (gD (parCW l tl) e6 []) d6.2.2 0) false))=false→(decide (d6.2.2 > (0:Int)))=true→e6<(List.length (parCW l tl)))∧(((!(inI (gD (gD (parCW l tl) e6 []) d6.2.2 0) (0:Int) ((lI l)-(1:Int))))||(gq.aget (.i .i64) d6.1 (gD (gD (parCW l tl) e6 []) d6.2.2 0) false))=false→(decide (d6.2.2 > (0:Int)))=true→InK .i64 (d6.2.2-(1:Int)))∧(((!(inI (gD (gD (parCW l tl) e6 []) d6.2.2 0) (0:Int) ((lI l)-(1:Int))))||(gq.aget (.i .i64) d6.1 (gD (gD (parCW l tl) e6 []) d6.2.2 0) false))=false→(decide (d6.2.2 > (0:Int)))=true→0≤(d6.2.2-(1:Int)))∧(((!(inI (gD (gD (parCW l tl) e6 []) d6.2.2 0) (0:Int) ((lI l)-(1:Int))))||(gq.aget (.i .i64) d6.1 (gD (gD (parCW l tl) e6 []) d6.2.2 0) false))=false→(decide (d6.2.2 > (0:Int)))=true→(d6.2.2-(1:Int))<(List.length (gD (parCW l tl) e6 [])))∧((((!(inI (gD (gD (parCW l tl) e6 []) d6.2.2 0) (0:Int) ((lI l)-(1:Int))))||(gq.aget (.i .i64) d6.1 (gD (gD (parCW l tl) e6 []) d6.2.2 0) false))||((decide (d6.2.2 > (0:Int)))&&(decide ((gD (gD (parCW l tl) e6 []) d6.2.2 0)≤(gD (gD (parCW l tl) e6 []) (d6.2.2-(1:Int)) 0)))))=true →
           (false=true∧(True))) ∧
          ((((!(inI (gD (gD (parCW l tl) e6 []) d6.2.2 0) (0:Int) ((lI l)-(1:Int))))||(gq.aget (.i .i64) d6.1 (gD (gD (parCW l tl) e6 []) d6.2.2 0) false))||((decide (d6.2.2 > (0:Int)))&&(decide ((gD (gD (parCW l tl) e6 []) d6.2.2 0)≤(gD (gD (parCW l tl) e6 []) (d6.2.2-(1:Int)) 0)))))=false →
           (I64 (d6.2.1+(1:Int)))∧(I64 (d6.2.2+(1:Int)))∧(∃ d7:(List (Int×Bool))×Int×Int,((l=l∧tl=tl∧True∧True∧True∧(d6.2.1+(1:Int))=d7.2.1∧e6=e6∧(d6.2.2+(1:Int))=d7.2.2∧True)∧(((parCW l tl)=(parCW l tl)∧(List.isEmpty (parCW l tl))=(List.isEmpty (parCW l tl)))∧((parHW l tl)=(parHW l tl)∧(List.isEmpty (parHW l tl))=(List.isEmpty (parHW l tl)))∧((aput (.i .i64) d6.1 (gD (gD (parCW l tl) e6 []) d6.2.2 0) true)=d7.1)∧True))∧q6 d7))) ∧
         ((decide (d6.2.2<(lI (gD (parCW l tl) e6 []))))=false →
          (0≤e6)∧(e6<(List.length (parCW l tl)))∧(((lI (gD (parCW l tl) e6 []))==(0:Int))=false→0≤e6)∧(((lI (gD (parCW l tl) e6 []))==(0:Int))=false→e6<(List.length (parCW l tl)))∧(((lI (gD (parCW l tl) e6 []))==(0:Int))=false→(∀ y∈l,lotOk y=true)∧(gD (parCW l tl) e6 []).length≤1000∧∀ i∈(gD (parCW l tl) e6 []),0≤i∧i<l.length)∧((((lI (gD (parCW l tl) e6 []))==(0:Int))||(!(alikeR (pickL l (gD (parCW l tl) e6 [])) tl)))=false→(decide (e6 > (0:Int)))=true→0≤e6)∧((((lI (gD (parCW l tl) e6 []))==(0:Int))||(!(alikeR (pickL l (gD (parCW l tl) e6 [])) tl)))=false→(decide (e6 > (0:Int)))=true→e6<(List.length (parCW l tl)))∧((((lI (gD (parCW l tl) e6 []))==(0:Int))||(!(alikeR (pickL l (gD (parCW l tl) e6 [])) tl)))=false→(decide (e6 > (0:Int)))=true→0≤(0:Int))∧((((lI (gD (parCW l tl) e6 []))==(0:Int))||(!(alikeR (pickL l (gD (parCW l tl) e6 [])) tl)))=false→(decide (e6 > (0:Int)))=true→(0:Int)<(List.length (gD (parCW l tl) e6 [])))∧((((lI (gD (parCW l tl) e6 []))==(0:Int))||(!(alikeR (pickL l (gD (parCW l tl) e6 [])) tl)))=false→(decide (e6 > (0:Int)))=true→InK .i64 (e6-(1:Int)))∧((((lI (gD (parCW l tl) e6 []))==(0:Int))||(!(alikeR (pickL l (gD (parCW l tl) e6 [])) tl)))=false→(decide (e6 > (0:Int)))=true→0≤(e6-(1:Int)))∧((((lI (gD (parCW l tl) e6 []))==(0:Int))||(!(alikeR (pickL l (gD (parCW l tl) e6 [])) tl)))=false→(decide (e6 > (0:Int)))=true→(e6-(1:Int))<(List.length (parCW l tl)))∧((((lI (gD (parCW l tl) e6 []))==(0:Int))||(!(alikeR (pickL l (gD (parCW l tl) e6 [])) tl)))=false→(decide (e6 > (0:Int)))=true→0≤(0:Int))∧((((lI (gD (parCW l tl) e6 []))==(0:Int))||(!(alikeR (pickL l (gD (parCW l tl) e6 [])) tl)))=false→(decide (e6 > (0:Int)))=true→(0:Int)<(List.length (gD (parCW l tl) (e6-(1:Int)) [])))∧(((((lI (gD (parCW l tl) e6 []))==(0:Int))||(!(alikeR (pickL l (gD (parCW l tl) e6 [])) tl)))||((decide (e6 > (0:Int)))&&(decide ((gD (gD (parCW l tl) e6 []) (0:Int) 0)≤(gD (gD (parCW l tl) (e6-(1:Int)) []) (0:Int) 0)))))=true →
           (false=true∧(True))) ∧
          (((((lI (gD (parCW l tl) e6 []))==(0:Int))||(!(alikeR (pickL l (gD (parCW l tl) e6 [])) tl)))||((decide (e6 > (0:Int)))&&(decide ((gD (gD (parCW l tl) e6 []) (0:Int) 0)≤(gD (gD (parCW l tl) (e6-(1:Int)) []) (0:Int) 0)))))=false →
           (I64 (e6+(1:Int)))∧(∃ d8:(List (Int×Bool))×Int×Int,((l=l∧tl=tl∧True∧True∧True∧d6.2.1=d8.2.1∧(e6+(1:Int))=d8.2.2∧True)∧(((parCW l tl)=(parCW l tl)∧(List.isEmpty (parCW l tl))=(List.isEmpty (parCW l tl)))∧((parHW l tl)=(parHW l tl)∧(List.isEmpty (parHW l tl))=(List.isEmpty (parHW l tl)))∧(d6.1=d8.1)∧True))∧q3 d8)))) d60) ∧
       ((decide (d3.2.2<(lI (parCW l tl))))=false →
        ∃ (e11:Int) (d110:Int),((l=l∧tl=tl∧True∧d3.2.1=e11∧(0:Int)=d110∧True)∧(((parHW l tl)=(parHW l tl)∧(List.isEmpty (parHW l tl))=(List.isEmpty (parHW l tl)))∧True)) ∧
        LoopP (fun (d11:Int) (q11:(Int)→Prop) =>
         ((decide (d11<(lI (parHW l tl))))=true →
          (0≤d11)∧(d11<(List.length (parHW l tl)))∧(I64 ((lI l)-(1:Int)))∧(True)∧((!(inI (gD (parHW l tl) d11 0) (0:Int) ((lI l)-(1:Int))))=false→(decide (d11 > (0:Int)))=true→0≤d11)∧((!(inI (gD (parHW l tl) d11 0) (0:Int) ((lI l)-(1:Int))))=false→(decide (d11 > (0:Int)))=true→d11<(List.length (parHW l tl)))∧((!(inI (gD (parHW l tl) d11 0) (0:Int) ((lI l)-(1:Int))))=false→(decide (d11 > (0:Int)))=true→InK .i64 (d11-(1:Int)))∧((!(inI (gD (parHW l tl) d11 0) (0:Int) ((lI l)-(1:Int))))=false→(decide (d11 > (0:Int)))=true→0≤(d11-(1:Int)))∧((!(inI (gD (parHW l tl) d11 0) (0:Int) ((lI l)-(1:Int))))=false→(decide (d11 > (0:Int)))=true→(d11-(1:Int))<(List.length (parHW l tl)))∧(((!(inI (gD (parHW l tl) d11 0) (0:Int) ((lI l)-(1:Int))))||((decide (d11 > (0:Int)))&&(decide ((gD (parHW l tl) d11 0)≤(gD (parHW l tl) (d11-(1:Int)) 0)))))=true →
           (false=true∧(True))) ∧
          (((!(inI (gD (parHW l tl) d11 0) (0:Int) ((lI l)-(1:Int))))||((decide (d11 > (0:Int)))&&(decide ((gD (parHW l tl) d11 0)≤(gD (parHW l tl) (d11-(1:Int)) 0)))))=false →
           (I64 (d11+(1:Int)))∧(∃ d12:Int,((l=l∧tl=tl∧True∧e11=e11∧(d11+(1:Int))=d12∧True)∧(((parHW l tl)=(parHW l tl)∧(List.isEmpty (parHW l tl))=(List.isEmpty (parHW l tl)))∧True))∧q11 d12))) ∧
         ((decide (d11<(lI (parHW l tl))))=false →
          ((e11==(lI l))=true→(∀ y∈l,lotOk y=true)∧(parHW l tl).length≤1000∧∀ i∈(parHW l tl),0≤i∧i<l.length)∧(((e11==(lI l))&&(unlR l tl (parHW l tl)))=true→True)∧((((e11==(lI l))&&(unlR l tl (parHW l tl)))&&true)=true∧(True)))) d110)) d30))))) ∧
 ((((openErr l tl)==(0:Int))&&(!(evenR l tl)))=false →
  (((decide ((lI l) > (20:Int)))||(((openErr l tl)==(0:Int))&&(decide ((lI l) > (8:Int)))))=true →
   (True)∧(true=true∧(True))) ∧
  (((decide ((lI l) > (20:Int)))||(((openErr l tl)==(0:Int))&&(decide ((lI l) > (8:Int)))))=false →
   (l.length≤1000)∧(l.length≤1000)∧(l.length≤1000)∧(l.length≤1000)∧((!(l==l))=true →
    (false=true∧(True))) ∧
   ((!(l==l))=false →
    (((openErr l tl) != (0:Int))=true →
     ((((partErr l tl)==(openErr l tl))&&((partErr l tl)==(openErr l tl)))=true→InK .i64 ((lI (parCW l tl))+(lI (parHW l tl))))∧(((((partErr l tl)==(openErr l tl))&&((partErr l tl)==(openErr l tl)))&&(((lI (parCW l tl))+(lI (parHW l tl)))==(0:Int)))=true→True)∧((((((partErr l tl)==(openErr l tl))&&((partErr l tl)==(openErr l tl)))&&(((lI (parCW l tl))+(lI (parHW l tl)))==(0:Int)))&&true)=true∧(True))) ∧
    (((openErr l tl) != (0:Int))=false →
     ((((partErr l tl) != (0:Int))||((partErr l tl) != (0:Int)))=false→(∀ y∈l,lotOk y=true)∧l.length≤12∧0≤(0:Int)∧(0:Int)≤l.length∧([]:List (List Int)).length≤(0:Int)∧∀ c∈([]:List (List Int)),c.length≤(0:Int)∧∀ i∈c,0≤i∧i<(0:Int))∧(((((partErr l tl) != (0:Int))||((partErr l tl) != (0:Int)))||((lI (parCW l tl)) != (cloR l tl (l.drop (0:Int).toNat).length (0:Int) ([]:List (List Int)))))=false→(∀ y∈l,lotOk y=true)∧l.length≤12)∧((((((partErr l tl) != (0:Int))||((partErr l tl) != (0:Int)))||((lI (parCW l tl)) != (cloR l tl (l.drop (0:Int).toNat).length (0:Int) ([]:List (List Int)))))||((lI (parHW l tl)) != (apR l tl)))=true →
      (false=true∧(True))) ∧
     ((((((partErr l tl) != (0:Int))||((partErr l tl) != (0:Int)))||((lI (parCW l tl)) != (cloR l tl (l.drop (0:Int).toNat).length (0:Int) ([]:List (List Int)))))||((lI (parHW l tl)) != (apR l tl)))=false →
      ∃ (e15:Unit) (d150:(List (Int×Bool))×Int×Int),((l=l∧tl=tl∧True∧True∧True∧(0:Int)=d150.2.1∧(0:Int)=d150.2.2∧True)∧(((parCW l tl)=(parCW l tl)∧(parCW l tl).isEmpty=(List.isEmpty (parCW l tl)))∧((parHW l tl)=(parHW l tl)∧(parHW l tl).isEmpty=(List.isEmpty (parHW l tl)))∧(([]:List (Int×Bool))=d150.1)∧True)) ∧
      LoopP (fun (d15:(List (Int×Bool))×Int×Int) (q15:((List (Int×Bool))×Int×Int)→Prop) =>
       ((decide (d15.2.2<(lI (parCW l tl))))=true →
        ∃ (e18:Int) (d180:(List (Int×Bool))×Int×Int),((l=l∧tl=tl∧True∧True∧True∧d15.2.1=d180.2.1∧d15.2.2=e18∧(0:Int)=d180.2.2∧True)∧(((parCW l tl)=(parCW l tl)∧(List.isEmpty (parCW l tl))=(List.isEmpty (parCW l tl)))∧((parHW l tl)=(parHW l tl)∧(List.isEmpty (parHW l tl))=(List.isEmpty (parHW l tl)))∧(d15.1=d180.1)∧True)) ∧
        LoopP (fun (d18:(List (Int×Bool))×Int×Int) (q18:((List (Int×Bool))×Int×Int)→Prop) =>
         (0≤e18)∧(e18<(List.length (parCW l tl)))∧((decide (d18.2.2<(lI (gD (parCW l tl) e18 []))))=true →
          (0≤e18)∧(e18<(List.length (parCW l tl)))∧(0≤d18.2.2)∧(d18.2.2<(List.length (gD (parCW l tl) e18 [])))∧(I64 ((lI l)-(1:Int)))∧(True)∧(((!(inI (gD (gD (parCW l tl) e18 []) d18.2.2 0) (0:Int) ((lI l)-(1:Int))))||(gq.aget (.i .i64) d18.1 (gD (gD (parCW l tl) e18 []) d18.2.2 0) false))=false→(decide (d18.2.2 > (0:Int)))=true→0≤e18)∧(((!(inI (gD (gD (parCW l tl) e18 []) d18.2.2 0) (0:Int) ((lI l)-(1:Int))))||(gq.aget (.i .i64) d18.1 (gD (gD (parCW l tl) e18 []) d18.2.2 0) false))=false→(decide (d18.2.2 > (0:Int)))=true→e18<(List.length (parCW l tl)))∧(((!(inI (gD (gD (parCW l tl) e18 []) d18.2.2 0) (0:Int) ((lI l)-(1:Int))))||(gq.aget (.i .i64) d18.1 (gD (gD (parCW l tl) e18 []) d18.2.2 0) false))=false→(decide (d18.2.2 > (0:Int)))=true→InK .i64 (d18.2.2-(1:Int)))∧(((!(inI (gD (gD (parCW l tl) e18 []) d18.2.2 0) (0:Int) ((lI l)-(1:Int))))||(gq.aget (.i .i64) d18.1 (gD (gD (parCW l tl) e18 []) d18.2.2 0) false))=false→(decide (d18.2.2 > (0:Int)))=true→0≤(d18.2.2-(1:Int)))∧(((!(inI (gD (gD (parCW l tl) e18 []) d18.2.2 0) (0:Int) ((lI l)-(1:Int))))||(gq.aget (.i .i64) d18.1 (gD (gD (parCW l tl) e18 []) d18.2.2 0) false))=false→(decide (d18.2.2 > (0:Int)))=true→(d18.2.2-(1:Int))<(List.length (gD (parCW l tl) e18 [])))∧((((!(inI (gD (gD (parCW l tl) e18 []) d18.2.2 0) (0:Int) ((lI l)-(1:Int))))||(gq.aget (.i .i64) d18.1 (gD (gD (parCW l tl) e18 []) d18.2.2 0) false))||((decide (d18.2.2 > (0:Int)))&&(decide ((gD (gD (parCW l tl) e18 []) d18.2.2 0)≤(gD (gD (parCW l tl) e18 []) (d18.2.2-(1:Int)) 0)))))=true →
           (false=true∧(True))) ∧
          ((((!(inI (gD (gD (parCW l tl) e18 []) d18.2.2 0) (0:Int) ((lI l)-(1:Int))))||(gq.aget (.i .i64) d18.1 (gD (gD (parCW l tl) e18 []) d18.2.2 0) false))||((decide (d18.2.2 > (0:Int)))&&(decide ((gD (gD (parCW l tl) e18 []) d18.2.2 0)≤(gD (gD (parCW l tl) e18 []) (d18.2.2-(1:Int)) 0)))))=false →
           (I64 (d18.2.1+(1:Int)))∧(I64 (d18.2.2+(1:Int)))∧(∃ d19:(List (Int×Bool))×Int×Int,((l=l∧tl=tl∧True∧True∧True∧(d18.2.1+(1:Int))=d19.2.1∧e18=e18∧(d18.2.2+(1:Int))=d19.2.2∧True)∧(((parCW l tl)=(parCW l tl)∧(List.isEmpty (parCW l tl))=(List.isEmpty (parCW l tl)))∧((parHW l tl)=(parHW l tl)∧(List.isEmpty (parHW l tl))=(List.isEmpty (parHW l tl)))∧((aput (.i .i64) d18.1 (gD (gD (parCW l tl) e18 []) d18.2.2 0) true)=d19.1)∧True))∧q18 d19))) ∧
         ((decide (d18.2.2<(lI (gD (parCW l tl) e18 []))))=false →
          (0≤e18)∧(e18<(List.length (parCW l tl)))∧(((lI (gD (parCW l tl) e18 []))==(0:Int))=false→0≤e18)∧(((lI (gD (parCW l tl) e18 []))==(0:Int))=false→e18<(List.length (parCW l tl)))∧(((lI (gD (parCW l tl) e18 []))==(0:Int))=false→(∀ y∈l,lotOk y=true)∧(gD (parCW l tl) e18 []).length≤1000∧∀ i∈(gD (parCW l tl) e18 []),0≤i∧i<l.length)∧((((lI (gD (parCW l tl) e18 []))==(0:Int))||(!(alikeR (pickL l (gD (parCW l tl) e18 [])) tl)))=false→(decide (e18 > (0:Int)))=true→0≤e18)∧((((lI (gD (parCW l tl) e18 []))==(0:Int))||(!(alikeR (pickL l (gD (parCW l tl) e18 [])) tl)))=false→(decide (e18 > (0:Int)))=true→e18<(List.length (parCW l tl)))∧((((lI (gD (parCW l tl) e18 []))==(0:Int))||(!(alikeR (pickL l (gD (parCW l tl) e18 [])) tl)))=false→(decide (e18 > (0:Int)))=true→0≤(0:Int))∧((((lI (gD (parCW l tl) e18 []))==(0:Int))||(!(alikeR (pickL l (gD (parCW l tl) e18 [])) tl)))=false→(decide (e18 > (0:Int)))=true→(0:Int)<(List.length (gD (parCW l tl) e18 [])))∧((((lI (gD (parCW l tl) e18 []))==(0:Int))||(!(alikeR (pickL l (gD (parCW l tl) e18 [])) tl)))=false→(decide (e18 > (0:Int)))=true→InK .i64 (e18-(1:Int)))∧((((lI (gD (parCW l tl) e18 []))==(0:Int))||(!(alikeR (pickL l (gD (parCW l tl) e18 [])) tl)))=false→(decide (e18 > (0:Int)))=true→0≤(e18-(1:Int)))∧((((lI (gD (parCW l tl) e18 []))==(0:Int))||(!(alikeR (pickL l (gD (parCW l tl) e18 [])) tl)))=false→(decide (e18 > (0:Int)))=true→(e18-(1:Int))<(List.length (parCW l tl)))∧((((lI (gD (parCW l tl) e18 []))==(0:Int))||(!(alikeR (pickL l (gD (parCW l tl) e18 [])) tl)))=false→(decide (e18 > (0:Int)))=true→0≤(0:Int))∧((((lI (gD (parCW l tl) e18 []))==(0:Int))||(!(alikeR (pickL l (gD (parCW l tl) e18 [])) tl)))=false→(decide (e18 > (0:Int)))=true→(0:Int)<(List.length (gD (parCW l tl) (e18-(1:Int)) [])))∧(((((lI (gD (parCW l tl) e18 []))==(0:Int))||(!(alikeR (pickL l (gD (parCW l tl) e18 [])) tl)))||((decide (e18 > (0:Int)))&&(decide ((gD (gD (parCW l tl) e18 []) (0:Int) 0)≤(gD (gD (parCW l tl) (e18-(1:Int)) []) (0:Int) 0)))))=true →
           (false=true∧(True))) ∧
          (((((lI (gD (parCW l tl) e18 []))==(0:Int))||(!(alikeR (pickL l (gD (parCW l tl) e18 [])) tl)))||((decide (e18 > (0:Int)))&&(decide ((gD (gD (parCW l tl) e18 []) (0:Int) 0)≤(gD (gD (parCW l tl) (e18-(1:Int)) []) (0:Int) 0)))))=false →
           (I64 (e18+(1:Int)))∧(∃ d20:(List (Int×Bool))×Int×Int,((l=l∧tl=tl∧True∧True∧True∧d18.2.1=d20.2.1∧(e18+(1:Int))=d20.2.2∧True)∧(((parCW l tl)=(parCW l tl)∧(List.isEmpty (parCW l tl))=(List.isEmpty (parCW l tl)))∧((parHW l tl)=(parHW l tl)∧(List.isEmpty (parHW l tl))=(List.isEmpty (parHW l tl)))∧(d18.1=d20.1)∧True))∧q15 d20)))) d180) ∧
       ((decide (d15.2.2<(lI (parCW l tl))))=false →
        ∃ (e23:Int) (d230:Int),((l=l∧tl=tl∧True∧d15.2.1=e23∧(0:Int)=d230∧True)∧(((parHW l tl)=(parHW l tl)∧(List.isEmpty (parHW l tl))=(List.isEmpty (parHW l tl)))∧True)) ∧
        LoopP (fun (d23:Int) (q23:(Int)→Prop) =>
         ((decide (d23<(lI (parHW l tl))))=true →
          (0≤d23)∧(d23<(List.length (parHW l tl)))∧(I64 ((lI l)-(1:Int)))∧(True)∧((!(inI (gD (parHW l tl) d23 0) (0:Int) ((lI l)-(1:Int))))=false→(decide (d23 > (0:Int)))=true→0≤d23)∧((!(inI (gD (parHW l tl) d23 0) (0:Int) ((lI l)-(1:Int))))=false→(decide (d23 > (0:Int)))=true→d23<(List.length (parHW l tl)))∧((!(inI (gD (parHW l tl) d23 0) (0:Int) ((lI l)-(1:Int))))=false→(decide (d23 > (0:Int)))=true→InK .i64 (d23-(1:Int)))∧((!(inI (gD (parHW l tl) d23 0) (0:Int) ((lI l)-(1:Int))))=false→(decide (d23 > (0:Int)))=true→0≤(d23-(1:Int)))∧((!(inI (gD (parHW l tl) d23 0) (0:Int) ((lI l)-(1:Int))))=false→(decide (d23 > (0:Int)))=true→(d23-(1:Int))<(List.length (parHW l tl)))∧(((!(inI (gD (parHW l tl) d23 0) (0:Int) ((lI l)-(1:Int))))||((decide (d23 > (0:Int)))&&(decide ((gD (parHW l tl) d23 0)≤(gD (parHW l tl) (d23-(1:Int)) 0)))))=true →
           (false=true∧(True))) ∧
          (((!(inI (gD (parHW l tl) d23 0) (0:Int) ((lI l)-(1:Int))))||((decide (d23 > (0:Int)))&&(decide ((gD (parHW l tl) d23 0)≤(gD (parHW l tl) (d23-(1:Int)) 0)))))=false →
           (I64 (d23+(1:Int)))∧(∃ d24:Int,((l=l∧tl=tl∧True∧e23=e23∧(d23+(1:Int))=d24∧True)∧(((parHW l tl)=(parHW l tl)∧(List.isEmpty (parHW l tl))=(List.isEmpty (parHW l tl)))∧True))∧q23 d24))) ∧
         ((decide (d23<(lI (parHW l tl))))=false →
          ((e23==(lI l))=true→(∀ y∈l,lotOk y=true)∧(parHW l tl).length≤1000∧∀ i∈(parHW l tl),0≤i∧i<l.length)∧(((e23==(lI l))&&(unlR l tl (parHW l tl)))=true→True)∧((((e23==(lI l))&&(unlR l tl (parHW l tl)))&&true)=true∧(True)))) d230)) d150)))))
def Q83:Cx:=⟨[(1000102,(.pair (.i .i64) .bo))],[(11,Z3r),(12,Z3x),(13,Z7r),(14,Z6l),(16,Z2e),(17,Z3m),(18,Z0u),(19,Z27),(20,Z1o),(21,Q8r),(22,Q72)],236,[],0,[(15,Z0t)],[],[],[],false,[],[],[],[]⟩
def Z58 (l:List (Int×(Int×Int)×Int)) (tl:Int):List (Nat×LoopAnn):=[(0,⟨Unit,(List (Int×Bool))×Int×Int,[0,1,7,9,11,12,13],fun e x=>[.val (.list (.pair (.i .i64) (.pair (.pair (.i .i64) (.i .i64)) (.i .i64)))) l,.val (.i .i64) tl,.lst 46,.lst 52,.map 102,.val (.i .i64) x.2.1,.val (.i .i64) x.2.2],fun e x=>[(46,.slot 7,.lst 31 (.list (.i .i64)) (parCW l tl) (List.isEmpty (parCW l tl))),(52,.slot 9,.lst 3 (.i .i64) (parHW l tl) (List.isEmpty (parHW l tl))),(102,.slot 11,.map (.i .i64) .bo x.1)]⟩),
 (2,⟨Int,(List (Int×Bool))×Int×Int,[0,1,7,9,11,12,13,14],fun e x=>[.val (.list (.pair (.i .i64) (.pair (.pair (.i .i64) (.i .i64)) (.i .i64)))) l,.val (.i .i64) tl,.lst 46,.lst 52,.map 102,.val (.i .i64) x.2.1,.val (.i .i64) e,.val (.i .i64) x.2.2],fun e x=>[(46,.slot 7,.lst 31 (.list (.i .i64)) (parCW l tl) (List.isEmpty (parCW l tl))),(52,.slot 9,.lst 3 (.i .i64) (parHW l tl) (List.isEmpty (parHW l tl))),(102,.slot 11,.map (.i .i64) .bo x.1)]⟩),
 (4,⟨Int,Int,[0,1,9,12,16],fun e x=>[.val (.list (.pair (.i .i64) (.pair (.pair (.i .i64) (.i .i64)) (.i .i64)))) l,.val (.i .i64) tl,.lst 52,.val (.i .i64) e,.val (.i .i64) x],fun e x=>[(52,.slot 9,.lst 3 (.i .i64) (parHW l tl) (List.isEmpty (parHW l tl)))]⟩)]
set_option maxRecDepth 100000 in
theorem Z5h (d:(List (Int×(Int×Int)×Int))×Int):gwp (Q83) (Z58 d.1 d.2) c3 0 (gend [.tmp 4] (Q7r d) (Q7k d)) (gstart 236 (AL.can Q84 d))=Q2s d.1 d.2:=by kernel_rfl
abbrev Z5e:Prop:=OkC Tryz.prog 3 Q9a
theorem Z5g (h:∀ (l:List (Int×(Int×Int)×Int)) (tl:Int),(l.length≤9223372036854775807)→Q2s l tl):OkC Tryz.prog 3 Q9a :=
 Q13 fun3 mixed (C:=Q83) (V:=fun (d:(List (Int×(Int×Int)×Int))×Int)=>Q2s d.1 d.2) ⟨(.cons J7t (.cons J7a (.cons J4t (.cons J9b (.cons J49 (.cons J6n (.cons J3c (.cons J4s (.cons Z6j (.cons Z5l (.cons Z45 .nil))))))))))),(XsOk.cons J07 XsOk.nil),ItsOk.nil,YlOk.nil,IysOk.nil,XfOk.nil⟩ (Z5h) fun d hp=>h d.1 d.2 hp
end Go.Proofs.Tryz
set_option linter.unusedVariables false
namespace Go.Proofs.Tryz
open Go Go.V Go.Proofs
theorem ok_law09_ShadeCloths:Z5e:=Z5g fun l tl h=>by
 unfold Q2s;(try delta lI gD sT I64);have hI:∀ e:Int,-100000≤e→e≤100000→InK .i64 e:=fun e _ _=>by simp only[Q0b];omega
 refine⟨h,fun c=>?_,fun hx=>?_,fun hx=>?_⟩
 ·have o:openErr l tl=0:=by simpa using c
  obtain⟨z,_,_⟩:=J0v o;obtain⟨z1,z2⟩:=Z12 z;exact⟨z2,by omega⟩
 ·refine⟨fun _=>(by and_intros<;>first|rfl|trivial|simp),fun c=>?_⟩;have hx:openErr l tl=0∧evenR l tl=false:=by simpa using hx
  obtain⟨z,_,_⟩:=J0v hx.1;obtain⟨z1,z2⟩:=Z12 z;have e1:partErr l tl=9:=by unfold partErr;rw[if_neg (by omega),X19 z1,hx.2];rfl
  obtain⟨e2,e3⟩:=Z6z e1 (by omega);rw[e1,e2,e3];refine⟨by omega,by omega,by omega,by omega,fun g=>by simp at g,fun _=>⟨fun _=>?_,fun g=>by simp at g⟩⟩;simp[Q0b]
 ·refine⟨fun _=>(by and_intros<;>first|rfl|trivial|simp),fun c=>?_⟩;have h20:¬ ((l.length:Int) > 20):=fun hh=>by simp[hh] at c
  refine⟨by omega,by omega,by omega,by omega,fun g=>by simp at g,fun _=>⟨fun g=>?_,fun g=>?_⟩⟩
  ·have g:openErr l tl≠0:=by simpa using g
   have e1:partErr l tl=openErr l tl:=by unfold partErr;rw[if_pos g]
   obtain⟨e2,e3⟩:=Z6z e1 g;rw[e1,e2,e3];simp[Q0b]
  have o:openErr l tl=0:=by simpa using g
  have hev:evenR l tl=true:=by simpa [o] using hx
  obtain⟨z,_,_⟩:=J0v o;obtain⟨z1,z2⟩:=Z12 z;have he:evenL l tl=true:=by rw[X19 z1];exact hev
  have e1:partErr l tl=0:=by unfold partErr;rw[if_neg (by omega),if_pos he]
  have e2:parHW l tl=parH l tl:=by unfold parHW;rw[if_pos e1]
  have e3:parCW l tl=parC l tl:=by unfold parCW;rw[if_pos e1]
  obtain⟨p1,p2,p3,p4,p5,p6,p7⟩:=J93 z1 z2 he;obtain⟨q1,q2⟩:=X0v z1 z2 he;have hd0:(l.drop (0:Int).toNat).length=l.length:=by simp
  have hPn:((List.range l.length).map fun (k:Nat)=>(k:Int)).Nodup:=List.pairwise_map.2 ((List.nodup_range (n:=l.length)).imp fun h e=>h (by omega));have hnd:(parC l tl).flatten.Nodup:=p1.nodup_iff.2 hPn;have hfl:(parC l tl).flatten.length=l.length:=by rw[p1.length_eq];simp
  have hmem:∀ i∈(parC l tl).flatten,0≤i∧i<(l.length:Int):=fun i hi=>by obtain⟨k,hk,rfl⟩:=List.mem_map.1 (p1.mem_iff.1 hi);have:=List.mem_range.1 hk;omega
  have hHn:(parH l tl).Nodup:=p4.imp fun h e=>by omega
  have hHl:(parH l tl).length≤12:=by
   have:=J66 (K:=l.length) (fun i=>i.toNat) hHn (fun i hi=>by have:=p5 i hi;omega) fun i hi j hj e=>by have:=p5 i hi;have:=p5 j hj;omega
   omega
  have hun:=(X12 p4).2 p6;rw[e1,e2,e3,hd0];simp only[←q1,←q2];generalize parC l tl=C at *
  generalize parH l tl=H at *
  refine⟨fun _=>⟨z2,z1,by omega,by omega,by simp,(fun c hc=>by cases hc)⟩,fun _=>⟨z2,z1⟩,fun g=>by simp at g,fun _=>?_⟩;refine⟨(),([],0,0),(by and_intros<;>first|rfl|trivial|simp),?_⟩;have hcat:∀ i,i≤C.length→C.flatten=(C.take i).flatten++(C.drop i).flatten:=fun i _=>by rw[←List.flatten_append,List.take_append_drop]
  have hcut:∀ i (hi:i<C.length),C.flatten=(C.take i).flatten++(C[i]++(C.drop (i+1)).flatten):=fun i hi=>by rw[hcat i (by omega),List.drop_eq_getElem_cons hi,List.flatten_cons]
  refine⟨fun d=>∃ i:Nat,d.2.2=i∧i≤C.length∧d.2.1=((C.take i).flatten.length:Int)∧∀ n,gq.aget (.i .i64) d.1 n false=decide (n∈(C.take i).flatten),fun d=>C.length-d.2.2.toNat,⟨0,rfl,by omega,rfl,fun n=>rfl⟩,?_⟩;rintro⟨M,many,i'⟩ ⟨i,f1,f2,f3,f4⟩;dsimp only at f1 f3 f4 ⊢;subst f1 f3;refine⟨fun c1=>?_,fun c1=>?_⟩
  ·have c1:i<C.length:=by have:=of_decide_eq_true c1;omega
   have hci:=Q02 (d:=([]:List Int)) c1;obtain⟨s1,s2,s3⟩:=p2 _ (List.getElem_mem c1);have hC:=hcut i c1;obtain⟨cc,hcc⟩:∃ cc,C[i]=cc:=⟨_,rfl⟩;rw[hcc] at s1 s2 s3 hC hci;rw[hC] at hnd hmem hfl;have hcn:cc.Nodup:=(List.nodup_append.1 (List.nodup_append.1 hnd).2.1).1;simp only[List.length_append] at hfl;have hc0:0<cc.length:=List.length_pos_iff.2 s2;refine⟨(i:Int),(M,(((C.take i).flatten.length:Nat):Int),0),(by and_intros<;>first|rfl|trivial|simp),?_⟩;refine⟨fun d=>∃ k:Nat,d.2.2=k∧k≤cc.length∧d.2.1=(((C.take i).flatten++cc.take k).length:Int)∧∀ n,gq.aget (.i .i64) d.1 n false=decide (n∈(C.take i).flatten++cc.take k),fun d=>cc.length-d.2.2.toNat,⟨0,rfl,by omega,by simp,fun n=>by rw[f4];simp⟩,?_⟩;rintro⟨M,many,k'⟩ ⟨k,g1,g2,g3,g4⟩;dsimp only at g1 g3 g4 ⊢;subst g1 g3;simp only[Int.toNat_natCast,hci];refine⟨by omega,by omega,fun c2=>?_,fun c2=>?_⟩
   ·have c2:k<cc.length:=by have:=of_decide_eq_true c2;omega
    have hx:cc.getD k 0=cc[k]:=Q02 c2;have hxm:cc[k]∈(C.take i).flatten++(cc++(C.drop (i+1)).flatten):=List.mem_append_right _ (List.mem_append_left _ (List.getElem_mem c2));have hxin:=hmem _ hxm;have h1:inI cc[k] 0 ((l.length:Int)-1)=true:=by unfold inI;simp;omega
    have hxn:cc[k]∉(C.take i).flatten++cc.take k:=fun hh=>by
     rcases List.mem_append.1 hh with hh|hh
     ·exact(List.nodup_append.1 hnd).2.2 _ hh _ (List.mem_append_left _ (List.getElem_mem c2)) rfl
     ·obtain⟨j,hj,e⟩:=List.getElem_of_mem hh;rw[List.getElem_take] at e;rw[List.length_take] at hj;exact List.pairwise_iff_getElem.1 hcn j k (by omega) c2 (by omega) e
    have h2:gq.aget (.i .i64) M cc[k] false=false:=by rw[g4];exact decide_eq_false hxn
    have h3:((decide ((k:Int) > 0))&&(decide (cc[k]≤cc.getD (((k:Int)-1)).toNat 0)))=false:=by
     by_cases hk0:k=0
     ·subst hk0;rfl
     ·have e5:((k:Int)-1).toNat=k-1:=by omega
      have hkl:k-1<cc.length:=by omega
      rw[e5,Q02 hkl];have h7:=List.pairwise_iff_getElem.1 s1 (k-1) k hkl c2 (by omega);have h8:cc[k-1]≠cc[k]:=List.pairwise_iff_getElem.1 hcn (k-1) k hkl c2 (by omega);have:¬ cc[k]≤cc[k-1]:=by omega
      simp[this]
    simp only[hx,h1,h2,h3,Bool.not_true,Bool.or_false];have htk:=Q41 c2;have hnew:∀ n,gq.aget (.i .i64) (aput (.i .i64) M cc[k] true) n false=decide (n∈(C.take i).flatten++cc.take (k+1)):=fun n=>by
     rw[X4o,g4,htk];by_cases e:n=cc[k]
     ·rw[if_pos e];exact(decide_eq_true (List.mem_append_right _ (List.mem_append_right _ (List.mem_singleton.2 e)))).symm
     ·rw[if_neg e];exact decide_eq_decide.2 (by simp only[List.mem_append,List.mem_singleton,e,or_false])
    have hll:(C.take i).flatten.length+(cc.take k).length≤12:=by rw[List.length_take];omega
    and_intros
    all_goals try (intros;first|omega|(rename_i gg;have gg:=of_decide_eq_true gg;omega)|exact(hI _ (by omega) (by omega)).1|exact(hI _ (by omega) (by omega)).2|exact hI _ (by omega) (by omega)|trivial)
    all_goals try (intro gg;cases gg;done)
    intro _;refine⟨hI _ (by rw[List.length_append];omega) (by rw[List.length_append];omega),hI _ (by omega) (by omega),(aput (.i .i64) M cc[k] true,(((C.take i).flatten++cc.take k).length:Int)+1,(k:Int)+1),(by and_intros<;>first|rfl|trivial|simp),⟨k+1,by simp,by omega,?_,hnew⟩,by dsimp only;omega⟩;dsimp only;rw[htk];simp only[List.length_append,List.length_singleton];omega
   ·have c2:k=cc.length:=by have:=of_decide_eq_false c2;omega
    subst c2;have hne0:(((cc.length:Nat):Int)==0)=false:=by simp;omega
    have hccin:∀ x∈cc,0≤x∧x<(l.length:Int):=fun x hx=>hmem x (List.mem_append_right _ (List.mem_append_left _ hx));have hcl:cc.length≤1000:=by omega
    have hz0:((0:Int)).toNat=0:=rfl;have hprev:((decide ((i:Int) > 0))&&(decide (cc.getD 0 0≤(C.getD (((i:Int)-1)).toNat []).getD 0 0)))=false:=by
     by_cases hi0:i=0
     ·subst hi0;rfl
     ·have e5:((i:Int)-1).toNat=i-1:=by omega
      have hil:i-1<C.length:=by omega
      rw[e5,Q02 hil];have h7:=List.pairwise_iff_getElem.1 p3 (i-1) i hil c1 (by omega);rw[hcc] at h7;have hpm:C[i-1]∈C.take i:=by rw[List.mem_take_iff_getElem];exact⟨i-1,by omega,rfl⟩
      have hpn:=(p2 _ (List.getElem_mem hil)).2.1;cases hpc:C[i-1] with
      |nil=>exact(hpn hpc).elim
      |cons x xs =>
       rw[hpc] at h7 hpm;cases cc with
       |nil=>exact(s2 rfl).elim
       |cons y ys =>
        have hne:x≠y:=fun e=>(List.nodup_append.1 hnd).2.2 _ (List.mem_flatten.2 ⟨_,hpm,List.mem_cons_self ..⟩) _ (List.mem_append_left _ (List.mem_cons_self ..)) e;have:¬ y≤x:=by simp only[cmpL] at h7;unfold cmpI at h7;split at h7<;>(try split at h7)<;>(try split at h7)<;>omega
        simp[this]
    have hprev0:(i:Int) > 0→(0:Int)<((C.getD ((i:Int)-1).toNat []).length:Int):=fun hi=>by
     have hil:i-1<C.length:=by omega
     rw[show ((i:Int)-1).toNat=i-1 by omega,Q02 hil];have:=List.length_pos_iff.2 (p2 _ (List.getElem_mem hil)).2.1;omega
    simp only[hz0,hne0,s3,hprev,Bool.not_true,Bool.or_false,decide_eq_true_eq];have htl:(C.take (i+1)).flatten=(C.take i).flatten++cc:=by rw[Q41 c1,List.flatten_append,hcc];simp
    and_intros
    all_goals try (intros;first|omega|(rename_i gg;have gg:=of_decide_eq_true gg;omega)|exact(hI _ (by omega) (by omega)).1|exact(hI _ (by omega) (by omega)).2|exact hI _ (by omega) (by omega)|trivial|exact⟨z2,hcl,hccin⟩|(apply hprev0;omega))
    all_goals try (intro gg;cases gg;done)
    intro _;refine⟨hI _ (by omega) (by omega),(M,(((C.take i).flatten++cc.take cc.length).length:Int),(i:Int)+1),(by and_intros<;>first|rfl|trivial|simp),⟨i+1,by simp,by omega,?_,fun n=>?_⟩,by dsimp only;omega⟩
    ·dsimp only;rw[htl,List.take_length]
    ·dsimp only;rw[g4,htl,List.take_length]
  ·have c1:i=C.length:=by have:=of_decide_eq_false c1;omega
   subst c1;refine⟨(((C.take C.length).flatten.length:Nat):Int),0,(by and_intros<;>first|rfl|trivial|simp),?_⟩;refine LoopP.count H.length (fun _=>True) trivial ?_;rintro j hj-q hq;simp only[Int.toNat_natCast];refine⟨fun c2=>?_,fun c2=>?_⟩
   ·have c2:j<H.length:=by have:=of_decide_eq_true c2;omega
    have hx:H.getD j 0=H[j]:=Q02 c2;have hxin:=p5 _ (List.getElem_mem c2);have h1:inI H[j] 0 ((l.length:Int)-1)=true:=by unfold inI;simp;omega
    have h3:((decide ((j:Int) > 0))&&(decide (H[j]≤H.getD (((j:Int)-1)).toNat 0)))=false:=by
     by_cases hk0:j=0
     ·subst hk0;rfl
     ·have e5:((j:Int)-1).toNat=j-1:=by omega
      have hkl:j-1<H.length:=by omega
      rw[e5,Q02 hkl];have h7:=List.pairwise_iff_getElem.1 p4 (j-1) j hkl c2 (by omega);have:¬ H[j]≤H[j-1]:=by omega
      simp[this]
    simp only[hx,h1,h3,Bool.not_true,Bool.or_false];and_intros;all_goals try (intros;first|omega|(rename_i gg;have gg:=of_decide_eq_true gg;omega)|exact(hI _ (by omega) (by omega)).1|exact(hI _ (by omega) (by omega)).2|exact hI _ (by omega) (by omega)|trivial)
    all_goals try (intro gg;cases gg;done)
    intro _;exact⟨hI _ (by omega) (by omega),(j:Int)+1,(by and_intros<;>first|rfl|trivial|simp),hq c2 trivial⟩
   ·have hfe:(((C.take C.length).flatten.length:Nat):Int)=(l.length:Int):=by rw[List.take_length,hfl]
    rw[hfe,hun];refine⟨fun _=>⟨z2,by omega,p5⟩,?_⟩;simp
end Go.Proofs.Tryz